import PyProof.Rows.All
import Wide.All
import OpenK.AllK
import Wide.FinOn
import HandS.ForMost
import HandS.ForExc
import HandS.Lambda
import KE.KDflt
import HandS.TupAny
import HandS.TupMul
import HandS.Style
import HandS.Wide
import HandS.IsInst
import HandS.Zip
import KE.GoesZip
import KE.GoesMore
import HandS.StrMore
import HandS.ExcOwn
import HandS.ExcIs
import HandS.TryOnly
import HandS.Conv
import KE.KExcIs
import HandS.ExcInit
import OpenK.KCls
import HandS.ExcField
import HandS.EndOwn
import KE.KNestM
import HandS.Deep
import PyProof.Rows.StrCut
import HandS.ReplaceList
import HandS.More
import PyProof.ListStr
import HandS.SortInts
import HandS.Flt
import KE.DataMinMax
import HandS.TupLe
import HandS.ReplaceLit
import HandS.ReplaceDef
import PySem.Challenge.RW_tabgrow_k07_whole_what_is_shown_is_read
set_option Elab.async false
set_option linter.all false
set_option maxRecDepth 100000
namespace Dl
open PySem PySem.Spec PyProof.Rows L2
/-- a lambda's text -/
structure LamD where
  q : Str
  params : Arguments
  body : PySem.Expr
  scope : Scope
/-- whatever it is: the object alone is known -/
def anyO : HO := .ext fun _ => True
/-- the cells that a lambda keeps, by name; what they hold -/
structure CellsAt (H : Hp) (N : List Str) (cl : List (Str × Addr)) (us : List Value) : Prop where
  at_ : ∀ (i : Nat) (y : Str), N[i]? = some y → ∃ c u o, cl.lookup y = some c ∧ us[i]? = some u ∧ H c = some (.frz o anyO) ∧ o.data = .cell (some u)
  all : ∀ y c, cl.lookup y = some c → y ∈ N
  mem : ∀ y c, (y, c) ∈ cl → cl.lookup y = some c
  inj : ∀ y z c, cl.lookup y = some c → cl.lookup z = some c → y = z
  len : us.length = N.length
/-- the cells stay what they are -/
theorem CellsAt.same {Rs H : Hp} {N : List Str} {cl : List (Str × Addr)} {us : List Value} (c : CellsAt Rs N cl us) (s : Same Rs H) : CellsAt H N cl us :=
  ⟨fun i y e => let ⟨c2, u, o, h1, h2, h3, h4⟩ := c.at_ i y e; ⟨c2, u, o, h1, h2, s _ _ h3, h4⟩, c.all, c.mem, c.inj, c.len⟩
theorem CellsAt.sameC {Rs H : Hp} {N : List Str} {cl : List (Str × Addr)} {us : List Value} (c : CellsAt Rs N cl us) (s : ∀ a o, Rs a = some (.frz o anyO) → H a = some (.frz o anyO)) : CellsAt H N cl us :=
  ⟨fun i y e => let ⟨c2, u, o, h1, h2, h3, h4⟩ := c.at_ i y e; ⟨c2, u, o, h1, h2, s _ _ h3, h4⟩, c.all, c.mem, c.inj, c.len⟩
/-- the default's tuple -/
def DvH (H : Hp) (dV : Value) (dv : List Value) : Prop := (dV = .none ∧ dv = []) ∨ dv ≠ [] ∧ ∃ T, dV = .ref T ∧ H T = some (.frz (PySem.W.kdv_tup dv) anyO)
theorem DvH.same {H H' : Hp} (s : Same H H') {dV : Value} {dv : List Value} : DvH H dV dv → DvH H' dV dv
  | .inl h => .inl h
  | .inr ⟨n, T, e, h⟩ => .inr ⟨n, T, e, s _ _ h⟩
/-- the lambda's function object, at f -/
def FnStd (H : Hp) (ld : LamD) (cl : List (Str × Addr)) (c' f : Addr) : Prop := ∃ (pm ctv doc dV : Value) (dv : List Value), dv.length = ld.params.defaults.length ∧ DvH H dV dv ∧
  H f = some (.frz (PySem.W.kdv_obj "<lambda>" ld.q ld.params (.expr ld.body) ld.scope cl dV doc pm c' ctv) anyO)
theorem FnStd.same {H H' : Hp} (s : Same H H') {ld : LamD} {cl : List (Str × Addr)} {c' f : Addr} : FnStd H ld cl c' f → FnStd H' ld cl c' f
  | ⟨pm, ctv, doc, dV, dv, h1, h2, h3⟩ => ⟨pm, ctv, doc, dV, dv, h1, h2.same s, s _ _ h3⟩
/-- as FnStd, the default's tuple frozen -/
def FnOb (F H : Hp) (ld : LamD) (cl : List (Str × Addr)) (c' f : Addr) : Prop := ∃ (pm ctv doc dV : Value) (dv : List Value), dv.length = ld.params.defaults.length ∧ DvH F dV dv ∧
  H f = some (.frz (PySem.W.kdv_obj "<lambda>" ld.q ld.params (.expr ld.body) ld.scope cl dV doc pm c' ctv) anyO)
theorem FnOb.mono {F F' H H' : Hp} (s : Same F F') {ld : LamD} {cl : List (Str × Addr)} {c' f : Addr} (h : H' f = H f) : FnOb F H ld cl c' f → FnOb F' H' ld cl c' f
  | ⟨pm, ctv, doc, dV, dv, h1, h2, h3⟩ => ⟨pm, ctv, doc, dV, dv, h1, h2.same s, h.trans h3⟩
/-- the tables have what they had -/
def TabsUp (T : List (Addr × Str)) (H H' : Hp) : Prop := ∀ t ∈ T, ∀ (ps : Array Value) (pos : Pos) (cv : Value), H t.1 = some (.tbl ps) → codeAmong pos ps.toList = some cv → ∃ ps', H' t.1 = some (.tbl ps') ∧ codeAmong pos ps'.toList = some cv
theorem TabsUp.refl (T : List (Addr × Str)) (H : Hp) : TabsUp T H H := fun t ht ps pos cv e c => ⟨ps, e, c⟩
theorem TabsUp.of {T : List (Addr × Str)} {H H' : Hp} (h : ∀ t ∈ T, ∀ ps : Array Value, H t.1 = some (.tbl ps) → H' t.1 = some (.tbl ps)) : TabsUp T H H' := fun t ht ps pos cv e c => ⟨ps, h t ht ps e, c⟩
end Dl
namespace Dl
open PySem L2
/-- data: plain values, frozen tuples and lists, and references into the store -/
inductive D where
  | non | bl (b : Bool) | int (i : Int) | str (s : List Nat) | tup (ds : List D) | lst (ds : List D) | ref (n : Nat) | scr (ns : List Int)
  /-- an exception as an except suite holds it: where it stands, its dict, its field, its number -/
  | exn (a : Nat) (o : Option (Nat × Str × Int))
  deriving Inhabited
mutual
def D.beq : D → D → Bool
  | .non, .non => true
  | .bl a, .bl b => a == b
  | .int a, .int b => a == b
  | .str a, .str b => a == b
  | .tup a, .tup b => D.beqs a b
  | .lst a, .lst b => D.beqs a b
  | .ref a, .ref b => a == b
  | .scr a, .scr b => a == b
  | .exn a o, .exn b u => decide (a = b ∧ o = u)
  | _, _ => false
def D.beqs : List D → List D → Bool
  | [], [] => true
  | x :: xs, y :: ys => D.beq x y && D.beqs xs ys
  | _, _ => false
end
mutual
theorem D.beq_refl : ∀ d : D, D.beq d d = true
  | .non => rfl
  | .bl a => by simp [D.beq]
  | .int a => by simp [D.beq]
  | .str a => by simp [D.beq]
  | .tup a => by unfold D.beq; exact D.beqs_refl a
  | .lst a => by unfold D.beq; exact D.beqs_refl a
  | .ref a => by simp [D.beq]
  | .scr a => by simp [D.beq]
  | .exn a o => by simp [D.beq]
theorem D.beqs_refl : ∀ ds : List D, D.beqs ds ds = true
  | [] => rfl
  | x :: xs => by unfold D.beqs; rw [D.beq_refl x, D.beqs_refl xs]; rfl
end
mutual
theorem D.eq_of_beq : ∀ (d e : D), D.beq d e = true → d = e
  | .non, e, h => by cases e <;> simp_all [D.beq]
  | .bl a, e, h => by cases e <;> simp_all [D.beq]
  | .int a, e, h => by cases e <;> simp_all [D.beq]
  | .str a, e, h => by cases e <;> simp_all [D.beq]
  | .ref a, e, h => by cases e <;> simp_all [D.beq]
  | .scr a, e, h => by cases e <;> simp_all [D.beq]
  | .exn a o, e, h => by cases e <;> simp_all [D.beq]
  | .tup a, e, h => by
    cases e with
    | tup b => unfold D.beq at h; rw [D.eqs_of_beqs a b h]
    | _ => simp [D.beq] at h
  | .lst a, e, h => by
    cases e with
    | lst b => unfold D.beq at h; rw [D.eqs_of_beqs a b h]
    | _ => simp [D.beq] at h
theorem D.eqs_of_beqs : ∀ (ds es : List D), D.beqs ds es = true → ds = es
  | [], es, h => by cases es <;> simp_all [D.beqs]
  | x :: xs, es, h => by
    cases es with
    | nil => simp [D.beqs] at h
    | cons y ys =>
      unfold D.beqs at h
      rw [Bool.and_eq_true] at h
      rw [D.eq_of_beq x y h.1, D.eqs_of_beqs xs ys h.2]
end
/-- what stands in the store -/
inductive Ob where
  | lst (ds : List D)
  | ins (C : Nat) (fs : List (Str × D))
  | dK (kvs : List (Key × D))
  | dT (kvs : List (List Key × D))
  | dead
  /-- a lambda: its number -/
  | fn (j : Nat)
abbrev Store := List Ob
abbrev Env := List (Option D)
/-- the longest text, list -/
def LIM : Nat := 1000000
/-- how an end came: a value, an exception (its class, what it bears), or no word is said -/
inductive R (A : Type) where
  | ok (a : A)
  | exc (c : Nat) (p : Option D) (st : Store)
  | bad
def R.bind {A B : Type} (r : R A) (f : A → R B) : R B := match r with
  | .ok a => f a
  | .exc c p st => .exc c p st
  | .bad => .bad
@[simp] theorem R.bind_ok {A B : Type} (a : A) (f : A → R B) : (R.ok a).bind f = f a := rfl
@[simp] theorem R.bind_exc {A B : Type} (c : Nat) (p : Option D) (st : Store) (f : A → R B) : (R.exc c p st).bind f = .exc c p st := rfl
@[simp] theorem R.bind_bad {A B : Type} (f : A → R B) : (R.bad).bind f = R.bad := rfl
/-- a value that may lack -/
def R.of {A : Type} : Option A → R A
  | some a => .ok a
  | none => .bad
@[simp] theorem R.of_some {A : Type} (a : A) : R.of (some a) = .ok a := rfl
@[simp] theorem R.of_none {A : Type} : R.of (none : Option A) = .bad := rfl
/-- a lambda that may stand in the store: its text, names, cells, where it's written; what its cells hold, where that's known -/
structure LamR where
  ld : LamD
  N : List Str
  cl : List (Str × Addr)
  pos : Pos
  cap : Option (List D)
structure Wd where
  K : PySem.W.Frag
  cls : Nat → Addr
  pay : Nat → Option Str
  /-- the tables of the defs that make lambdas, the lambdas' names -/
  tabs : List (Addr × Str)
  /-- the lambdas that may stand in the store, by number -/
  lam : Nat → Option LamR := fun _ => none
/-- with these lambdas -/
abbrev Wd.wl (W : Wd) (lm : Nat → Option LamR) : Wd := { W with lam := lm }
/-- the script's list -/
def ScrAt (F : Hp) (a : Addr) (ns : List Int) : Prop := (∃ o, F a = some (.frz o (.lst (ns.map V.int)))) ∨ F a = some (.lst (ns.map V.int))
theorem ScrAt.mono {F F' : Hp} {a : Addr} {ns : List Int} (s : Same F F') : ScrAt F a ns → ScrAt F' a ns
  | .inl ⟨o, h⟩ => .inl ⟨o, s _ _ h⟩
  | .inr h => .inr (s _ _ h)
theorem ScrAt.sq {F H : Hp} {a : Addr} {ns : List Int} {K : PySem.W.Frag} (s : Same F H) : ScrAt F a ns → SqL K H a (ns.map V.int)
  | .inl ⟨o, h⟩ => .inl (.inr ⟨o, s _ _ h⟩)
  | .inr h => .of (s _ _ h)
mutual
inductive Rep (F : Hp) (rho : List Addr) : V → D → Prop
  | non : Rep F rho .non .non
  | bl (b : Bool) : Rep F rho (.bl b) (.bl b)
  | int (i : Int) : Rep F rho (.int i) (.int i)
  | str (s : List Nat) : s.all (fun c => decide (c < 128)) = true → s.length ≤ LIM → Rep F rho (.str ⟨s.toArray⟩) (.str s)
  | tup {a : Addr} {vs : List V} {ds : List D} : F a = some (.tup vs) → Reps F rho vs ds → Rep F rho (.ref a) (.tup ds)
  | lst {a : Addr} {vs : List V} {ds : List D} : F a = some (.lst vs) → Reps F rho vs ds → Rep F rho (.ref a) (.lst ds)
  | ref {a : Addr} {n : Nat} : rho[n]? = some a → Rep F rho (.ref a) (.ref n)
  | scr {a : Addr} {ns : List Int} : ScrAt F a ns → Rep F rho (.ref a) (.scr ns)
  | exn0 (a : Addr) : Rep F rho (.ref a) (.exn a none)
  | exn1 {a dd : Addr} {f : Str} {i : Int} : F dd = some (.xd [(f, .int i)]) → Rep F rho (.ref a) (.exn a (some (dd, f, i)))
inductive Reps (F : Hp) (rho : List Addr) : List V → List D → Prop
  | nil : Reps F rho [] []
  | cons {v : V} {vs : List V} {d : D} {ds : List D} : Rep F rho v d → Reps F rho vs ds → Reps F rho (v :: vs) (d :: ds)
end
def Ext (r r' : List Addr) : Prop := ∀ (i : Nat) (a : Addr), r[i]? = some a → r'[i]? = some a
theorem Ext.refl (r : List Addr) : Ext r r := fun _ _ h => h
theorem Ext.trans {a b c : List Addr} (h : Ext a b) (k : Ext b c) : Ext a c := fun i x e => k i x (h i x e)
theorem Ext.snoc (r : List Addr) (a : Addr) : Ext r (r ++ [a]) := fun i x e => by
  have h := (List.getElem?_eq_some_iff.mp e).1
  rw [List.getElem?_append_left h]; exact e
section
variable {F F' : Hp} {r r' : List Addr}
mutual
theorem Rep.mono (s : Same F F') (x : Ext r r') : ∀ {d : D} {v : V}, Rep F r v d → Rep F' r' v d
  | _, _, .non => .non
  | _, _, .bl b => .bl b
  | _, _, .int i => .int i
  | _, _, .str t h1 h2 => .str t h1 h2
  | _, _, .tup h k => .tup (s _ _ h) (Reps.mono s x k)
  | _, _, .lst h k => .lst (s _ _ h) (Reps.mono s x k)
  | _, _, .ref h => .ref (x _ _ h)
  | _, _, .scr h => .scr (h.mono s)
  | _, _, .exn0 a => .exn0 a
  | _, _, .exn1 h => .exn1 (s _ _ h)
theorem Reps.mono (s : Same F F') (x : Ext r r') : ∀ {ds : List D} {vs : List V}, Reps F r vs ds → Reps F' r' vs ds
  | _, _, .nil => .nil
  | _, _, .cons h k => .cons (Rep.mono s x h) (Reps.mono s x k)
end
end
section
variable {F : Hp} {r : List Addr}
theorem Reps.length : ∀ {vs : List V} {ds : List D}, Reps F r vs ds → vs.length = ds.length
  | _, _, .nil => rfl
  | _, _, .cons _ k => by simp [Reps.length k]
theorem Reps.get : ∀ {vs : List V} {ds : List D} {i : Nat} {d : D}, Reps F r vs ds → ds[i]? = some d → ∃ v, vs[i]? = some v ∧ Rep F r v d
  | _, _, _, _, .nil, e => by simp at e
  | _, _, 0, _, .cons h _, e => by simp at e; subst e; exact ⟨_, rfl, h⟩
  | _, _, i + 1, d, .cons _ k, e => by
    obtain ⟨v, h1, h2⟩ := Reps.get (i := i) k (by simpa using e)
    exact ⟨v, by simpa using h1, h2⟩
theorem Reps.append : ∀ {vs ws : List V} {ds es : List D}, Reps F r vs ds → Reps F r ws es → Reps F r (vs ++ ws) (ds ++ es)
  | _, _, _, _, .nil, k => k
  | _, _, _, _, .cons h t, k => .cons h (Reps.append t k)
theorem Reps.take : ∀ {vs : List V} {ds : List D} (n : Nat), Reps F r vs ds → Reps F r (vs.take n) (ds.take n)
  | _, _, 0, _ => .nil
  | _, _, _ + 1, .nil => .nil
  | _, _, n + 1, .cons h t => .cons h (Reps.take n t)
theorem Reps.drop : ∀ {vs : List V} {ds : List D} (n : Nat), Reps F r vs ds → Reps F r (vs.drop n) (ds.drop n)
  | _, _, 0, h => h
  | _, _, _ + 1, .nil => .nil
  | _, _, n + 1, .cons _ t => Reps.drop n t
theorem Reps.set {v : V} {d : D} (h : Rep F r v d) : ∀ {vs : List V} {ds : List D} (i : Nat), Reps F r vs ds → Reps F r (vs.set i v) (ds.set i d)
  | _, _, _, .nil => .nil
  | _, _, 0, .cons _ t => .cons h t
  | _, _, i + 1, .cons q t => .cons q (Reps.set h i t)
theorem Reps.eraseIdx : ∀ {vs : List V} {ds : List D} (i : Nat), Reps F r vs ds → Reps F r (vs.eraseIdx i) (ds.eraseIdx i)
  | _, _, _, .nil => .nil
  | _, _, 0, .cons _ t => t
  | _, _, i + 1, .cons q t => .cons q (Reps.eraseIdx i t)
theorem Reps.reverse : ∀ {vs : List V} {ds : List D}, Reps F r vs ds → Reps F r vs.reverse ds.reverse
  | _, _, .nil => .nil
  | _, _, .cons h t => by rw [List.reverse_cons, List.reverse_cons]; exact Reps.append (Reps.reverse t) (.cons h .nil)
theorem Reps.flat {vs : List V} {ds : List D} (h : Reps F r vs ds) : ∀ k : Nat, Reps F r (List.replicate k vs).flatten (List.replicate k ds).flatten
  | 0 => .nil
  | k + 1 => by rw [List.replicate_succ, List.replicate_succ, List.flatten_cons, List.flatten_cons]; exact Reps.append h (Reps.flat h k)
theorem Reps.snoc {vs : List V} {ds : List D} {v : V} {d : D} (h : Reps F r vs ds) (k : Rep F r v d) : Reps F r (vs ++ [v]) (ds ++ [d]) := Reps.append h (.cons k .nil)
end
/-- the fields of an instance -/
def Flds (F : Hp) (r : List Addr) : List (Str × V) → List (Str × D) → Prop
  | [], [] => True
  | (f, v) :: vs, (g, d) :: ds => f = g ∧ Rep F r v d ∧ Flds F r vs ds
  | _, _ => False
theorem Flds.mono {F F' : Hp} {r r' : List Addr} (s : Same F F') (x : Ext r r') : ∀ {vs : List (Str × V)} {ds : List (Str × D)}, Flds F r vs ds → Flds F' r' vs ds
  | [], [], _ => trivial
  | (f, v) :: vs, (g, d) :: ds, ⟨e, h, k⟩ => ⟨e, h.mono s x, Flds.mono s x k⟩
  | [], _ :: _, h => h.elim
  | _ :: _, [], h => h.elim
theorem Flds.look {F : Hp} {r : List Addr} {f : Str} : ∀ {vs : List (Str × V)} {ds : List (Str × D)} {d : D}, Flds F r vs ds → ds.lookup f = some d → ∃ v, vs.lookup f = some v ∧ Rep F r v d
  | [], [], _, _, e => by simp at e
  | (g, v) :: vs, (g', d') :: ds, d, ⟨e, h, k⟩, q => by
    subst e
    rw [List.lookup_cons] at q ⊢
    cases hb : f == g with
    | true => rw [hb] at q; cases q; exact ⟨v, rfl, h⟩
    | false => rw [hb] at q; exact Flds.look k q
  | [], _ :: _, _, h, _ => h.elim
  | _ :: _, [], _, h, _ => h.elim
theorem Flds.lookN {F : Hp} {r : List Addr} {f : Str} : ∀ {vs : List (Str × V)} {ds : List (Str × D)}, Flds F r vs ds → ds.lookup f = none → vs.lookup f = none
  | [], [], _, _ => rfl
  | (g, v) :: vs, (g', d') :: ds, ⟨e, h, k⟩, q => by
    subst e
    rw [List.lookup_cons] at q ⊢
    cases hb : f == g with
    | true => rw [hb] at q; cases q
    | false => rw [hb] at q; exact Flds.lookN k q
  | [], _ :: _, h, _ => h.elim
  | _ :: _, [], h, _ => h.elim
def putD (f : Str) (v : D) : List (Str × D) → List (Str × D)
  | [] => [(f, v)]
  | (g, u) :: r => if g = f then (g, v) :: r else (g, u) :: putD f v r
theorem Flds.put {F : Hp} {r : List Addr} {f : Str} {v : V} {d : D} (h : Rep F r v d) : ∀ {vs : List (Str × V)} {ds : List (Str × D)}, Flds F r vs ds → Flds F r (putF f v vs) (putD f d ds)
  | [], [], _ => ⟨rfl, h, trivial⟩
  | (g, v') :: vs, (g', d') :: ds, ⟨e, q, k⟩ => by
    subst e
    unfold putF putD
    split
    · exact ⟨rfl, h, k⟩
    · exact ⟨rfl, q, Flds.put h k⟩
  | [], _ :: _, h => h.elim
  | _ :: _, [], h => h.elim
theorem Flds.length {F : Hp} {r : List Addr} : ∀ {vs : List (Str × V)} {ds : List (Str × D)}, Flds F r vs ds → vs.length = ds.length
  | [], [], _ => rfl
  | (g, v) :: vs, (g', d) :: ds, ⟨_, _, k⟩ => by simp [Flds.length k]
  | [], _ :: _, h => h.elim
  | _ :: _, [], h => h.elim
def KVr {k : Type} (F : Hp) (r : List Addr) : List (k × V) → List (k × D) → Prop
  | [], [] => True
  | (f, v) :: vs, (g, d) :: ds => f = g ∧ Rep F r v d ∧ KVr F r vs ds
  | _, _ => False
theorem KVr.mono {k : Type} {F F' : Hp} {r r' : List Addr} (s : Same F F') (x : Ext r r') : ∀ {vs : List (k × V)} {ds : List (k × D)}, KVr F r vs ds → KVr F' r' vs ds
  | [], [], _ => trivial
  | (f, v) :: vs, (g, d) :: ds, ⟨e, h, k⟩ => ⟨e, h.mono s x, KVr.mono s x k⟩
  | [], _ :: _, h => h.elim
  | _ :: _, [], h => h.elim
/-- cells that are known -/
def KnOk (lm : Nat → Option LamR) (Rs F : Hp) (r : List Addr) : Prop := ∀ (j : Nat) (x : LamR) (caps : List D), lm j = some x → x.cap = some caps → ∃ us vs, CellsAt Rs x.N x.cl us ∧ Vals vs us ∧ Reps F r vs caps
theorem KnOk.mono {lm : Nat → Option LamR} {Rs Rs' F F' : Hp} {r r' : List Addr} (k : KnOk lm Rs F r) (sR : Same Rs Rs') (s : Same F F') (x : Ext r r') : KnOk lm Rs' F' r' := fun j l caps h1 h2 => let ⟨us, vs, a, b, c⟩ := k j l caps h1 h2; ⟨us, vs, a.same sR, b, c.mono s x⟩
theorem KnOk.keep {lm : Nat → Option LamR} {Rs Rs' F F' : Hp} {r r' : List Addr} (k : KnOk lm Rs F r) (sR : ∀ a o, Rs a = some (.frz o anyO) → Rs' a = some (.frz o anyO)) (s : Same F F') (x : Ext r r') : KnOk lm Rs' F' r' := fun j l caps h1 h2 => let ⟨us, vs, a, b, c⟩ := k j l caps h1 h2; ⟨us, vs, a.sameC sR, b, c.mono s x⟩
/-- the object at a is the store's o -/
def ObOk (W : Wd) (F : Hp) (r : List Addr) (H : Hp) (a : Addr) : Ob → Prop
  | .lst ds => ∃ vs, H a = some (.lst vs) ∧ Reps F r vs ds
  | .ins C fs => ∃ dx vfs, H a = some (.ins (W.cls C) dx vfs) ∧ Flds F r vfs fs
  | .dK kvs => ∃ vs, H a = some (.dK vs) ∧ KVr F r vs kvs
  | .dT kvs => ∃ vs, H a = some (.dT vs) ∧ KVr F r vs kvs
  | .dead => ∃ o, H a = some o ∧ (∀ ps, o ≠ .tbl ps) ∧ ∀ φ, o ≠ .ext φ
  | .fn j => ∃ (x : LamR) (P c' : Addr) (ps : Array Value), W.lam j = some x ∧ (P, x.ld.q) ∈ W.tabs ∧ H P = some (.tbl ps) ∧ codeAmong x.pos ps.toList = some (.ref c') ∧ FnOb F H x.ld x.cl c' a
theorem ObOk.mono {W : Wd} {F F' H H' : Hp} {r r' : List Addr} {a : Addr} (s : Same F F') (x : Ext r r') (h : H' a = H a) (g : TabsUp W.tabs H H') : ∀ {o : Ob}, ObOk W F r H a o → ObOk W F' r' H' a o
  | .lst _, ⟨vs, e, k⟩ => ⟨vs, h.trans e, k.mono s x⟩
  | .ins _ _, ⟨dx, vs, e, k⟩ => ⟨dx, vs, h.trans e, k.mono s x⟩
  | .dK _, ⟨vs, e, k⟩ => ⟨vs, h.trans e, k.mono s x⟩
  | .dT _, ⟨vs, e, k⟩ => ⟨vs, h.trans e, k.mono s x⟩
  | .dead, ⟨o, e, k⟩ => ⟨o, h.trans e, k⟩
  | .fn j, ⟨l, P, c', ps, h1, h2, h3, h4, h5⟩ => let ⟨ps', h6, h7⟩ := g _ h2 ps _ _ h3 h4; ⟨l, P, c', ps', h1, h2, h6, h7, h5.mono s h⟩
theorem ObOk.ne {W : Wd} {F H : Hp} {r : List Addr} {a : Addr} : ∀ {o : Ob}, ObOk W F r H a o → H a ≠ none
  | .lst _, ⟨vs, e, k⟩ => by rw [e]; simp
  | .ins _ _, ⟨dx, vs, e, k⟩ => by rw [e]; simp
  | .dK _, ⟨vs, e, k⟩ => by rw [e]; simp
  | .dT _, ⟨vs, e, k⟩ => by rw [e]; simp
  | .dead, ⟨o, e, k⟩ => by rw [e]; simp
  | .fn j, ⟨l, P, c', ps, h1, h2, h3, h4, ⟨_, _, _, _, _, _, _, e⟩⟩ => by rw [e]; simp
theorem ObOk.kind {W : Wd} {F H : Hp} {r : List Addr} {a : Addr} : ∀ {o : Ob}, ObOk W F r H a o → ∃ u, H a = some u ∧ (∀ ps, u ≠ .tbl ps) ∧ ∀ φ, u ≠ .ext φ
  | .lst _, ⟨vs, e, k⟩ => ⟨_, e, (fun _ z => by cases z), fun _ z => by cases z⟩
  | .ins _ _, ⟨dx, vs, e, k⟩ => ⟨_, e, (fun _ z => by cases z), fun _ z => by cases z⟩
  | .dK _, ⟨vs, e, k⟩ => ⟨_, e, (fun _ z => by cases z), fun _ z => by cases z⟩
  | .dT _, ⟨vs, e, k⟩ => ⟨_, e, (fun _ z => by cases z), fun _ z => by cases z⟩
  | .dead, h => h
  | .fn j, ⟨l, P, c', ps, h1, h2, h3, h4, ⟨_, _, _, _, _, _, _, e⟩⟩ => ⟨_, e, (fun _ z => by cases z), fun _ z => by cases z⟩
/-- the tables are whole, and none of the rest -/
structure TabsOk (T : List (Addr × Str)) (F Rs H : Hp) (r : List Addr) : Prop where
  at_ : ∀ p ∈ T, LamX.TabS H p.1 p.2 ∧ F p.1 = none ∧ Rs p.1 = none ∧ p.1 ∉ r
  nF : ∀ a ps, F a ≠ some (.tbl ps)
  nR : ∀ a ps, Rs a ≠ some (.tbl ps)
theorem tabs_keep {H H' : Hp} {P : Addr} {q : Str} (t : LamX.TabS H P q) (k : ∀ a o, H a = some o → ((∃ ps, o = .tbl ps) ∨ ∃ φ, o = .ext φ) → H' a = some o) : LamX.TabS H' P q := by
  obtain ⟨ps, h1, h2, h3⟩ := t
  refine ⟨ps, k _ _ h1 (.inl ⟨ps, rfl⟩), h2, fun pos cv hc => ?_⟩
  obtain ⟨c, e1, e2⟩ := h3 pos cv hc
  exact ⟨c, e1, k _ _ e2 (.inr ⟨_, rfl⟩)⟩
theorem tabs_here {H : Hp} {P : Addr} {q : Str} (t : LamX.TabS H P q) : H P ≠ none := by
  obtain ⟨ps, h1, _⟩ := t
  rw [h1]; simp
/-- the heap H is the frozen part F, the store's objects at r, a part Rs that is none of ours, and waste -/
structure Holds (W : Wd) (Rs F H : Hp) (r : List Addr) (st : Store) : Prop where
  sF : Same F H
  sR : Same Rs H
  dj : ∀ a, F a ≠ none → Rs a = none
  len : r.length = st.length
  nd : r.Nodup
  own : ∀ a ∈ r, F a = none ∧ Rs a = none
  ob : ∀ (i : Nat) (a : Addr) (o : Ob), r[i]? = some a → st[i]? = some o → ObOk W F r H a o
  tb : TabsOk W.tabs F Rs H r
  kn : KnOk W.lam Rs F r
section
variable {W : Wd} {Rs F H : Hp} {r : List Addr} {st : Store}
theorem Holds.freeF (h : Holds W Rs F H r st) {p : Addr} (e : H p = none) : F p = none := h.sF.free e
theorem Holds.freeR (h : Holds W Rs F H r st) {p : Addr} (e : H p = none) : Rs p = none := h.sR.free e
theorem Holds.there (h : Holds W Rs F H r st) {a : Addr} (e : a ∈ r) : H a ≠ none := by
  obtain ⟨i, hi, rfl⟩ := List.mem_iff_getElem.mp e
  have hs : i < st.length := by rw [← h.len]; exact hi
  exact (h.ob i r[i] st[i] (by simp [hi]) (by simp [hs])).ne
theorem Holds.notin (h : Holds W Rs F H r st) {p : Addr} (e : H p = none) : p ∉ r := fun m => h.there m e
/-- the tables stay where something new is laid -/
theorem Holds.upN (h : Holds W Rs F H r st) {p : Addr} {o : HO} (e : H p = none) : TabsUp W.tabs H (upd H p o) := .of fun t ht ps q => by rw [upd_ne (ne_of_none q e)]; exact q
theorem Holds.upR (h : Holds W Rs F H r st) {p : Addr} {o : HO} (m : p ∈ r) : TabsUp W.tabs H (upd H p o) := .of fun t ht ps q => by
  rw [upd_ne fun z => ?_]
  · exact q
  · exact (h.tb.at_ t ht).2.2.2 (by rw [z]; exact m)
/-- a new frozen object -/
theorem Holds.kindOf (h : Holds W Rs F H r st) {a : Addr} (e : a ∈ r) : ∃ u, H a = some u ∧ (∀ ps, u ≠ .tbl ps) ∧ ∀ φ, u ≠ .ext φ := by
  obtain ⟨i, hi, rfl⟩ := List.mem_iff_getElem.mp e
  have hs : i < st.length := by rw [← h.len]; exact hi
  exact (h.ob i r[i] st[i] (by simp [hi]) (by simp [hs])).kind
theorem Holds.frozen (h : Holds W Rs F H r st) {p : Addr} {o : HO} (e : H p = none) (hn : ∀ ps, o ≠ .tbl ps := by intro _ z; cases z) : Same F (upd F p o) ∧ Holds W Rs (upd F p o) (upd H p o) r st := by
  have sF : Same F (upd F p o) := fun b u q => by rw [upd_ne (ne_of_none q (h.freeF e))]; exact q
  refine ⟨sF, ⟨fun b u q => ?_, fun b u q => ?_, fun b q => ?_, h.len, h.nd, fun b m => ?_, fun i a o' e1 e2 => ?_, ⟨fun t ht => ?_, fun b ps => ?_, h.tb.nR⟩, h.kn.mono (Same.refl _) sF (Ext.refl _)⟩⟩
  · by_cases hb : b = p
    · subst hb; rw [upd_same] at q ⊢; exact q
    · rw [upd_ne hb] at q ⊢; exact h.sF _ _ q
  · rw [upd_ne (ne_of_none q (h.freeR e))]; exact h.sR _ _ q
  · by_cases hb : b = p
    · rw [hb]; exact h.freeR e
    · rw [upd_ne hb] at q; exact h.dj b q
  · have hb : b ≠ p := fun z => h.notin e (z ▸ m)
    rw [upd_ne hb]; exact h.own b m
  · have hb : a ≠ p := fun z => h.notin e (z ▸ List.mem_of_getElem? e1)
    exact (h.ob i a o' e1 e2).mono sF (Ext.refl _) (upd_ne hb) (h.upN e)
  · obtain ⟨t1, t2, t3, t4⟩ := h.tb.at_ t ht
    exact ⟨t1.ext fun b u q => by rw [upd_ne (ne_of_none q e)]; exact q, by rw [upd_ne (fun (z : t.1 = p) => tabs_here t1 (by rw [z]; exact e))]; exact t2, t3, t4⟩
  · by_cases hb : b = p
    · rw [hb, upd_same]; exact fun z => hn ps (Option.some.inj z)
    · rw [upd_ne hb]; exact h.tb.nF b ps
/-- a new object of the store -/
theorem Holds.fresh (h : Holds W Rs F H r st) {p : Addr} {o : HO} {b : Ob} (e : H p = none) (k : ObOk W F (r ++ [p]) (upd H p o) p b) : Holds W Rs F (upd H p o) (r ++ [p]) (st ++ [b]) := by
  refine ⟨fun c u q => ?_, fun c u q => ?_, h.dj, by simp [h.len], ?_, fun c m => ?_, fun i a o' e1 e2 => ?_, ⟨fun t ht => ?_, h.tb.nF, h.tb.nR⟩, h.kn.mono (Same.refl _) (Same.refl _) (Ext.snoc _ _)⟩
  · rw [upd_ne (ne_of_none q (h.freeF e))]; exact h.sF _ _ q
  · rw [upd_ne (ne_of_none q (h.freeR e))]; exact h.sR _ _ q
  · rw [List.nodup_append]
    refine ⟨h.nd, by simp, fun a ha b hb => ?_⟩
    have : b = p := by simpa using hb
    subst this
    exact fun z => h.notin e (z ▸ ha)
  · rcases List.mem_append.mp m with m | m
    · exact h.own c m
    · have : c = p := by simpa using m
      subst this
      exact ⟨h.freeF e, h.freeR e⟩
  · by_cases hi : i < r.length
    · rw [List.getElem?_append_left hi] at e1
      rw [List.getElem?_append_left (by rw [← h.len]; exact hi)] at e2
      have hb : a ≠ p := fun z => h.notin e (z ▸ List.mem_of_getElem? e1)
      exact (h.ob i a o' e1 e2).mono (Same.refl _) (Ext.snoc _ _) (upd_ne hb) (h.upN e)
    · have hl : i = r.length := by
        have := (List.getElem?_eq_some_iff.mp e1).1
        simp at this; omega
      subst hl
      rw [List.getElem?_append_right (Nat.le_refl _)] at e1
      rw [List.getElem?_append_right (by rw [h.len]; exact Nat.le_refl _)] at e2
      simp at e1
      rw [h.len] at e2
      simp at e2
      subst e1; subst e2
      exact k
  · obtain ⟨t1, t2, t3, t4⟩ := h.tb.at_ t ht
    refine ⟨t1.ext fun b u q => by rw [upd_ne (ne_of_none q e)]; exact q, t2, t3, fun m => ?_⟩
    rcases List.mem_append.mp m with m | m
    · exact t4 m
    · exact tabs_here t1 (by rw [List.mem_singleton.mp m]; exact e)
/-- an object of the store is changed -/
theorem Holds.write (h : Holds W Rs F H r st) {n : Nat} {p : Addr} {o : HO} {b : Ob} (e : r[n]? = some p) (k : ObOk W F r (upd H p o) p b) : Holds W Rs F (upd H p o) r (st.set n b) := by
  have mp : p ∈ r := List.mem_of_getElem? e
  obtain ⟨o1, o2⟩ := h.own p mp
  refine ⟨fun c u q => ?_, fun c u q => ?_, h.dj, by simp [h.len], h.nd, h.own, fun i a o' e1 e2 => ?_, ⟨fun t ht => ?_, h.tb.nF, h.tb.nR⟩, h.kn⟩
  · rw [upd_ne (fun z => by rw [z, o1] at q; cases q)]; exact h.sF _ _ q
  · rw [upd_ne (fun z => by rw [z, o2] at q; cases q)]; exact h.sR _ _ q
  · by_cases hi : i = n
    · subst hi
      rw [e] at e1; cases e1
      have hl : i < st.length := by rw [← h.len]; exact (List.getElem?_eq_some_iff.mp e).1
      rw [List.getElem?_set_self hl] at e2; cases e2
      exact k
    · rw [List.getElem?_set_ne (Ne.symm hi)] at e2
      have hb : a ≠ p := fun z => by
        subst z
        obtain ⟨h1, q1⟩ := List.getElem?_eq_some_iff.mp e
        obtain ⟨h2, q2⟩ := List.getElem?_eq_some_iff.mp e1
        exact hi ((List.getElem_inj h.nd).mp (q2.trans q1.symm))
      exact (h.ob i a o' e1 e2).mono (Same.refl _) (Ext.refl _) (upd_ne hb) (h.upR mp)
  · obtain ⟨t1, t2, t3, t4⟩ := h.tb.at_ t ht
    obtain ⟨u, hu, k1, k2⟩ := h.kindOf mp
    refine ⟨tabs_keep t1 fun a v q z => ?_, t2, t3, t4⟩
    rw [upd_ne fun w => ?_]
    · exact q
    · rw [w, hu] at q
      cases q
      rcases z with ⟨ps, z⟩ | ⟨φ, z⟩
      · exact k1 ps z
      · exact k2 φ z
theorem Holds.get (h : Holds W Rs F H r st) {n : Nat} {o : Ob} (e : st[n]? = some o) : ∃ a, r[n]? = some a ∧ ObOk W F r H a o := by
  have hl : n < r.length := by rw [h.len]; exact (List.getElem?_eq_some_iff.mp e).1
  exact ⟨r[n], by simp [hl], h.ob n _ o (by simp [hl]) e⟩
/-- all else is put aside -/
def isTbl : Option HO → Bool
  | some (.tbl _) => true
  | _ => false
end
/-- the slots hold what the environment says -/
structure EnvOk (F : Hp) (r : List Addr) (sg : St) (env : Env) : Prop where
  len : sg.length = env.length
  at_ : ∀ (i : Nat) (d : D), env[i]? = some (some d) → ∃ v, sg[i]? = some (some v) ∧ Rep F r v d
theorem EnvOk.mono {F F' : Hp} {r r' : List Addr} {sg : St} {env : Env} (s : Same F F') (x : Ext r r') (h : EnvOk F r sg env) : EnvOk F' r' sg env :=
  ⟨h.len, fun i d e => let ⟨v, q, k⟩ := h.at_ i d e; ⟨v, q, k.mono s x⟩⟩
theorem EnvOk.set {F : Hp} {r : List Addr} {sg : St} {env : Env} {v : V} {d : D} (h : EnvOk F r sg env) (k : Rep F r v d) (i : Nat) : EnvOk F r (sg.set i (some v)) (env.set i (some d)) := by
  refine ⟨by simp [h.len], fun j e q => ?_⟩
  by_cases hj : i = j
  · subst hj
    by_cases hl : i < env.length
    · rw [List.getElem?_set_self hl] at q; cases q
      exact ⟨v, by rw [List.getElem?_set_self (by rw [h.len]; exact hl)], k⟩
    · rw [List.getElem?_eq_none (by simp; omega)] at q; cases q
  · rw [List.getElem?_set_ne hj] at q ⊢
    exact h.at_ j e q
theorem EnvOk.start {F : Hp} {r : List Addr} {vs : List V} {ds : List D} {n : Nat} (h : Reps F r vs ds) : EnvOk F r (vs.map some ++ List.replicate (n - vs.length) none) (ds.map some ++ List.replicate (n - ds.length) none) := by
  have hl := h.length
  refine ⟨by simp [hl], fun i d e => ?_⟩
  by_cases hi : i < ds.length
  · rw [List.getElem?_append_left (by simpa using hi), List.getElem?_map] at e
    cases q : ds[i]? with
    | none => rw [q] at e; simp at e
    | some d' =>
      rw [q] at e; simp at e; subst e
      obtain ⟨v, h1, h2⟩ := h.get q
      exact ⟨v, by rw [List.getElem?_append_left (by simp; omega), List.getElem?_map, h1]; rfl, h2⟩
  · rw [List.getElem?_append_right (by simpa using hi), List.getElem?_replicate] at e
    split at e <;> simp at e
def PayOk (W : Wd) (F : Hp) (r : List Addr) (H : Hp) (c : Nat) (od : Option Addr) : Option D → Prop
  | none => od = none
  | some d => ∃ f a i, W.pay c = some f ∧ od = some a ∧ F a = some (.xd [(f, .int i)]) ∧ d = .int i
def ExcPost (W : Wd) (Rs F : Hp) (r : List Addr) (c : Nat) (p : Option D) (st' : Store) (E : XK) : Prop :=
  ∀ F' H' r' od, Same F F' → Ext r r' → Holds W Rs F' H' r' st' → PayOk W F' r' H' c od p → E (.ref (W.cls c)) od H'
def PostX {A : Type} (W : Wd) (Rs F : Hp) (r : List Addr) (res : R A) (K : A → Prop) (E : XK) : Prop := match res with
  | .ok a => K a
  | .exc c p st' => ExcPost W Rs F r c p st' E
  | .bad => False
def onE (W : Wd) (Rs F : Hp) (r : List Addr) (Q : VK) : D × Store → Prop := fun a => ∀ F' H' r' v, Same F F' → Ext r r' → Holds W Rs F' H' r' a.2 → Rep F' r' v a.1 → Q v H'
def onA (W : Wd) (Rs F : Hp) (r : List Addr) (Q : List V → Hp → Prop) : List D × Store → Prop := fun a => ∀ F' H' r' vs, Same F F' → Ext r r' → Holds W Rs F' H' r' a.2 → Reps F' r' vs a.1 → Q vs H'
def onT (W : Wd) (Rs F : Hp) (r : List Addr) (Q : Bool → Hp → Prop) : Bool × Store → Prop := fun a => ∀ F' H' r', Same F F' → Ext r r' → Holds W Rs F' H' r' a.2 → Q a.1 H'
abbrev Post (W : Wd) (Rs F : Hp) (r : List Addr) (res : R (D × Store)) (Q : VK) (E : XK) : Prop := PostX W Rs F r res (onE W Rs F r Q) E
abbrev PostA (W : Wd) (Rs F : Hp) (r : List Addr) (res : R (List D × Store)) (Q : List V → Hp → Prop) (E : XK) : Prop := PostX W Rs F r res (onA W Rs F r Q) E
abbrev PostT (W : Wd) (Rs F : Hp) (r : List Addr) (res : R (Bool × Store)) (Q : Bool → Hp → Prop) (E : XK) : Prop := PostX W Rs F r res (onT W Rs F r Q) E
theorem ExcPost.later {W : Wd} {Rs F F1 : Hp} {r r1 : List Addr} {c : Nat} {p : Option D} {st' : Store} {E : XK} (s : Same F F1) (x : Ext r r1) (h : ExcPost W Rs F r c p st' E) : ExcPost W Rs F1 r1 c p st' E :=
  fun F' H' r' od s' x' => h F' H' r' od (s.trans s') (x.trans x')
section
variable {W : Wd} {Rs F F1 : Hp} {r r1 : List Addr} {E : XK}
theorem bindX {A B : Type} {res : R A} {f : A → R B} {K : B → Prop} {K' : A → Prop} (h : PostX W Rs F r (res.bind f) K E) (k : ∀ a, res = .ok a → PostX W Rs F r (f a) K E → K' a) : PostX W Rs F r res K' E := by
  cases res with
  | ok a => exact k a rfl h
  | exc c p st' => exact h
  | bad => exact h
theorem PostX.imp {A : Type} {res : R A} {K K' : A → Prop} (s : Same F F1) (x : Ext r r1) (h : PostX W Rs F r res K E) (k : ∀ a, K a → K' a) : PostX W Rs F1 r1 res K' E := by
  cases res with
  | ok a => exact k a h
  | exc c p st' => exact ExcPost.later s x h
  | bad => exact h
theorem Post.later {res : R (D × Store)} {Q : VK} (s : Same F F1) (x : Ext r r1) (h : Post W Rs F r res Q E) : Post W Rs F1 r1 res Q E :=
  PostX.imp s x h fun _ q F' H' r' v s' x' => q F' H' r' v (s.trans s') (x.trans x')
theorem PostA.later {res : R (List D × Store)} {Q : List V → Hp → Prop} (s : Same F F1) (x : Ext r r1) (h : PostA W Rs F r res Q E) : PostA W Rs F1 r1 res Q E :=
  PostX.imp s x h fun _ q F' H' r' v s' x' => q F' H' r' v (s.trans s') (x.trans x')
theorem PostT.later {res : R (Bool × Store)} {Q : Bool → Hp → Prop} (s : Same F F1) (x : Ext r r1) (h : PostT W Rs F r res Q E) : PostT W Rs F1 r1 res Q E :=
  PostX.imp s x h fun _ q F' H' r' s' x' => q F' H' r' (s.trans s') (x.trans x')
end
abbrev EV := Env → Store → R (D × Store)
abbrev TV := Env → Store → R (Bool × Store)
abbrev AV := Env → Store → R (List D × Store)
/-- e means f -/
def tDE (W : Wd) (E : XK) (f : EV) : TE := fun sg H Q => ∃ Rs F r env st, Holds W Rs F H r st ∧ EnvOk F r sg env ∧ Post W Rs F r (f env st) Q E
def DE (W : Wd) (X : Cx) (E : XK) (e : Expr) (f : EV) : Prop := PE X e (tDE W E f)
theorem DE.mk {W : Wd} {X : Cx} {E : XK} {e : Expr} {f : EV} {t : TE} (p : PE X e t) (q : ∀ Rs F H r sg env st Q, Holds W Rs F H r st → EnvOk F r sg env → Post W Rs F r (f env st) Q E → t sg H Q) : DE W X E e f :=
  ⟨fun pins s sg H Q I ⟨Rs, F, r, env, st, a, b, c⟩ => p.run pins s sg H Q I (q Rs F H r sg env st Q a b c)⟩
theorem DE.ex {W : Wd} {X : Cx} {E : XK} {e : Expr} {f : EV} (h : DE W X E e f) : ∃ t, PE X e t ∧ ∀ Rs F H r sg env st Q, Holds W Rs F H r st → EnvOk F r sg env → Post W Rs F r (f env st) Q E → t sg H Q :=
  ⟨_, h, fun Rs F H r sg env st Q a b c => ⟨Rs, F, r, env, st, a, b, c⟩⟩
def tDT (W : Wd) (E : XK) (f : TV) : TT := fun sg H Q => ∃ Rs F r env st, Holds W Rs F H r st ∧ EnvOk F r sg env ∧ PostT W Rs F r (f env st) Q E
def DT (W : Wd) (X : Cx) (E : XK) (e : Expr) (f : TV) : Prop := PT X e (tDT W E f)
theorem DT.mk {W : Wd} {X : Cx} {E : XK} {e : Expr} {f : TV} {t : TT} (p : PT X e t) (q : ∀ Rs F H r sg env st Q, Holds W Rs F H r st → EnvOk F r sg env → PostT W Rs F r (f env st) Q E → t sg H Q) : DT W X E e f :=
  ⟨fun pins s sg H Q I ⟨Rs, F, r, env, st, a, b, c⟩ => p.run pins s sg H Q I (q Rs F H r sg env st Q a b c)⟩
theorem DT.ex {W : Wd} {X : Cx} {E : XK} {e : Expr} {f : TV} (h : DT W X E e f) : ∃ t, PT X e t ∧ ∀ Rs F H r sg env st Q, Holds W Rs F H r st → EnvOk F r sg env → PostT W Rs F r (f env st) Q E → t sg H Q :=
  ⟨_, h, fun Rs F H r sg env st Q a b c => ⟨Rs, F, r, env, st, a, b, c⟩⟩
def tDW (W : Wd) (E : XK) (f : TV) : TT := fun sg H Q => ∃ Rs F r env st, Holds W Rs F H r st ∧ EnvOk F r sg env ∧ PostT W Rs F r (f env st) Q E
def DW (W : Wd) (X : Cx) (E : XK) (e : Expr) (f : TV) : Prop := PW X e (tDW W E f)
theorem DW.mk {W : Wd} {X : Cx} {E : XK} {e : Expr} {f : TV} {t : TT} (p : PW X e t) (q : ∀ Rs F H r sg env st Q, Holds W Rs F H r st → EnvOk F r sg env → PostT W Rs F r (f env st) Q E → t sg H Q) : DW W X E e f :=
  ⟨fun wh pins s sg H Q I ⟨Rs, F, r, env, st, a, b, c⟩ => p.run wh pins s sg H Q I (q Rs F H r sg env st Q a b c)⟩
theorem DW.ex {W : Wd} {X : Cx} {E : XK} {e : Expr} {f : TV} (h : DW W X E e f) : ∃ t, PW X e t ∧ ∀ Rs F H r sg env st Q, Holds W Rs F H r st → EnvOk F r sg env → PostT W Rs F r (f env st) Q E → t sg H Q :=
  ⟨_, h, fun Rs F H r sg env st Q a b c => ⟨Rs, F, r, env, st, a, b, c⟩⟩
def tDA (W : Wd) (E : XK) (f : AV) : TA := fun sg H Q => ∃ Rs F r env st, Holds W Rs F H r st ∧ EnvOk F r sg env ∧ PostA W Rs F r (f env st) Q E
def DA (W : Wd) (X : Cx) (E : XK) (e : List Expr) (f : AV) : Prop := PA X e (tDA W E f)
theorem DA.mk {W : Wd} {X : Cx} {E : XK} {e : List Expr} {f : AV} {t : TA} (p : PA X e t) (q : ∀ Rs F H r sg env st Q, Holds W Rs F H r st → EnvOk F r sg env → PostA W Rs F r (f env st) Q E → t sg H Q) : DA W X E e f :=
  ⟨fun pos pins s sg H Q I ⟨Rs, F, r, env, st, a, b, c⟩ => p.run pos pins s sg H Q I (q Rs F H r sg env st Q a b c)⟩
theorem DA.ex {W : Wd} {X : Cx} {E : XK} {e : List Expr} {f : AV} (h : DA W X E e f) : ∃ t, PA X e t ∧ ∀ Rs F H r sg env st Q, Holds W Rs F H r st → EnvOk F r sg env → PostA W Rs F r (f env st) Q E → t sg H Q :=
  ⟨_, h, fun Rs F H r sg env st Q a b c => ⟨Rs, F, r, env, st, a, b, c⟩⟩
/-- the ends of a statement -/
inductive SR where
  | nx (env : Env) (st : Store)
  | rt (d : D) (st : Store)
  | bk (env : Env) (st : Store)
  | ct (env : Env) (st : Store)
  | exc (c : Nat) (p : Option D) (st : Store)
  | bad
abbrev SV := Env → Store → SR
def PostF (W : Wd) (Rs F : Hp) (r : List Addr) (env' : Env) (st' : Store) (N : St → Hp → Prop) : Prop :=
  ∀ F' H' r' sg', Same F F' → Ext r r' → Holds W Rs F' H' r' st' → EnvOk F' r' sg' env' → N sg' H'
theorem PostF.later {W : Wd} {Rs F F1 : Hp} {r r1 : List Addr} {env' : Env} {st' : Store} {N : St → Hp → Prop} (s : Same F F1) (x : Ext r r1) (h : PostF W Rs F r env' st' N) : PostF W Rs F1 r1 env' st' N :=
  fun F' H' r' sg' s' x' => h F' H' r' sg' (s.trans s') (x.trans x')
def PostS (W : Wd) (Rs F : Hp) (r : List Addr) (res : SR) (D : Ends) (E : XK) : Prop := match res with
  | .nx env' st' => PostF W Rs F r env' st' D.nx
  | .rt d st' => ∀ F' H' r' v, Same F F' → Ext r r' → Holds W Rs F' H' r' st' → Rep F' r' v d → D.rt v H'
  | .bk env' st' => PostF W Rs F r env' st' D.bk
  | .ct env' st' => PostF W Rs F r env' st' D.ct
  | .exc c p st' => ExcPost W Rs F r c p st' E
  | .bad => False
theorem PostS.later {W : Wd} {Rs F F1 : Hp} {r r1 : List Addr} {res : SR} {D : Ends} {E : XK} (s : Same F F1) (x : Ext r r1) (h : PostS W Rs F r res D E) : PostS W Rs F1 r1 res D E := by
  cases res with
  | nx e t => exact PostF.later s x h
  | rt d t => exact fun F' H' r' v s' x' => h F' H' r' v (s.trans s') (x.trans x')
  | bk e t => exact PostF.later s x h
  | ct e t => exact PostF.later s x h
  | exc c p st' => exact ExcPost.later s x h
  | bad => exact h
def tDS (W : Wd) (E : XK) (f : SV) : TS := fun D sg H => ∃ Rs F r env st, Holds W Rs F H r st ∧ EnvOk F r sg env ∧ PostS W Rs F r (f env st) D E
def DS (W : Wd) (X : Cx) (E : XK) (e : Stmt) (f : SV) : Prop := PS X e (tDS W E f)
theorem DS.mk {W : Wd} {X : Cx} {E : XK} {e : Stmt} {f : SV} {t : TS} (p : PS X e t) (q : ∀ Rs F H r sg env st D, Holds W Rs F H r st → EnvOk F r sg env → PostS W Rs F r (f env st) D E → t D sg H) : DS W X E e f :=
  ⟨fun pins s sg H D I ⟨Rs, F, r, env, st, a, b, c⟩ => p.run pins s sg H D I (q Rs F H r sg env st D a b c)⟩
theorem DS.ex {W : Wd} {X : Cx} {E : XK} {e : Stmt} {f : SV} (h : DS W X E e f) : ∃ t, PS X e t ∧ ∀ Rs F H r sg env st D, Holds W Rs F H r st → EnvOk F r sg env → PostS W Rs F r (f env st) D E → t D sg H :=
  ⟨_, h, fun Rs F H r sg env st D a b c => ⟨Rs, F, r, env, st, a, b, c⟩⟩
def tDB (W : Wd) (E : XK) (f : SV) : TS := fun D sg H => ∃ Rs F r env st, Holds W Rs F H r st ∧ EnvOk F r sg env ∧ PostS W Rs F r (f env st) D E
def DB (W : Wd) (X : Cx) (E : XK) (e : List Stmt) (f : SV) : Prop := PSs X e (tDB W E f)
theorem DB.mk {W : Wd} {X : Cx} {E : XK} {e : List Stmt} {f : SV} {t : TS} (p : PSs X e t) (q : ∀ Rs F H r sg env st D, Holds W Rs F H r st → EnvOk F r sg env → PostS W Rs F r (f env st) D E → t D sg H) : DB W X E e f :=
  ⟨fun pins s sg H D I ⟨Rs, F, r, env, st, a, b, c⟩ => p.run pins s sg H D I (q Rs F H r sg env st D a b c)⟩
theorem DB.ex {W : Wd} {X : Cx} {E : XK} {e : List Stmt} {f : SV} (h : DB W X E e f) : ∃ t, PSs X e t ∧ ∀ Rs F H r sg env st D, Holds W Rs F H r st → EnvOk F r sg env → PostS W Rs F r (f env st) D E → t D sg H :=
  ⟨_, h, fun Rs F H r sg env st D a b c => ⟨Rs, F, r, env, st, a, b, c⟩⟩
/-- a def's meaning -/
abbrev FV := List D → Store → R (D × Store)
/-- a def's promise: it means g, for n arguments -/
def spD (W : Wd) (n : Nat) (g : FV) : Sp := fun vs H Q E => ∃ Rs F r st ds, Holds W Rs F H r st ∧ Reps F r vs ds ∧ ds.length = n ∧ Post W Rs F r (g ds st) Q E
def funD (n : Nat) (b : SV) : FV := fun ds st => match b (ds.map some ++ List.replicate (n - ds.length) none) st with
  | .nx _ st' => .ok (.non, st')
  | .rt d st' => .ok (d, st')
  | .exc c p st' => .exc c p st'
  | _ => .bad
end Dl
namespace Dl
open PySem L2
section
variable {W : Wd} {X : Cx} {E : XK}
def eV (i : Nat) : EV := fun env st => match env[i]? with
  | some (some d) => .ok (d, st)
  | _ => .bad
def eC (d : D) : EV := fun _ st => .ok (d, st)
theorem onE_here {Rs F H : Hp} {r : List Addr} {st : Store} {Q : VK} {v : V} {d : D} (h : Holds W Rs F H r st) (k : Rep F r v d) (q : onE W Rs F r Q (d, st)) : Q v H := q F H r v (Same.refl _) (Ext.refl _) h k
theorem de_var {i : Nat} {x : Str} {pos : Pos} (hN : X.N[i]? = some x) (hv : Vis X.env.scope x) (hd : (x == ("__debug__" : Str)) = false := by decide) (hcd : (x == ("__classdict__" : Str)) = false := by decide) : DE W X E (.Name x pos) (eV i) := by
  refine .mk (pe_var hN hv hd hcd) fun Rs F H r sg env st Q hH hE hP => ?_
  unfold eV at hP
  split at hP
  · rename_i d e
    obtain ⟨v, h1, h2⟩ := hE.at_ i d e
    exact ⟨v, h1, onE_here hH h2 hP⟩
  · exact hP.elim
theorem de_c {e : Expr} {v : V} {d : D} (h : PE X e (tC v)) (k : ∀ F r, Rep F r v d) : DE W X E e (eC d) :=
  .mk h fun Rs F H r sg env st Q hH hE hP => onE_here hH (k F r) hP
theorem de_int {i j pos} : DE W X E (.Constant (.int i) j pos) (eC (.int i)) := de_c pe_int fun _ _ => .int i
theorem de_bl {b j pos} : DE W X E (.Constant (.bool b) j pos) (eC (.bl b)) := de_c pe_bl fun _ _ => .bl b
theorem de_non {j pos} : DE W X E (.Constant .none j pos) (eC .non) := de_c pe_non fun _ _ => .non
theorem rep_str {x : Str} {s : List Nat} (h : x.cps.toList = s) (a : (s.all (fun c => decide (c < 128)) && decide (s.length ≤ LIM)) = true) (F : Hp) (r : List Addr) : Rep F r (.str x) (.str s) := by
  have e : x = ⟨s.toArray⟩ := by subst h; cases x; rfl
  rw [Bool.and_eq_true] at a
  rw [e]
  exact .str s a.1 (of_decide_eq_true a.2)
theorem de_str {x : Str} {s : List Nat} {j pos} (h : x.cps.toList = s) (a : (s.all (fun c => decide (c < 128)) && decide (s.length ≤ LIM)) = true) : DE W X E (.Constant (.str x) j pos) (eC (.str s)) := de_c pe_str (rep_str h a)
/-- a constant of the module -/
theorem de_globI {x : Str} {i : Int} {t : Tok} {pos : Pos} (hg : Gl X x) (hm : X.mg x = some (.int i t)) (hd : (x == ("__debug__" : Str)) = false := by decide) : DE W X E (.Name x pos) (eC (.int i)) := de_c (pe_glob hg hm (v := .int i) ⟨_, rfl⟩ hd) fun _ _ => .int i
theorem de_globS {x y : Str} {s : List Nat} {t : Tok} {pos : Pos} (hg : Gl X x) (hm : X.mg x = some (.str y t)) (h : y.cps.toList = s) (a : (s.all (fun c => decide (c < 128)) && decide (s.length ≤ LIM)) = true) (hd : (x == ("__debug__" : Str)) = false := by decide) : DE W X E (.Name x pos) (eC (.str s)) :=
  de_c (pe_glob hg hm (v := .str y) ⟨_, rfl⟩ hd) (rep_str h a)
abbrev G2 := Store → D → D → R (D × Store)
def eOp (g : G2) (fa fb : EV) : EV := fun env st => (fa env st).bind fun a => (fb env a.2).bind fun b => g b.2 a.1 b.1
/-- an operation of two values means g -/
def DOp (W : Wd) (X : Cx) (f : Value → Value → Sem Value) (g : G2) : Prop :=
  ∃ r, OpR X f r ∧ ∀ Rs F H rr st x y dx dy Q E, Holds W Rs F H rr st → Rep F rr x dx → Rep F rr y dy → Post W Rs F rr (g st dx dy) Q E → r x y H Q
theorem eOp_post {ta tb : TE} {rd : R2} {fa fb : EV} {g : G2}
    (qa : ∀ Rs F H r sg env st Q, Holds W Rs F H r st → EnvOk F r sg env → Post W Rs F r (fa env st) Q E → ta sg H Q)
    (qb : ∀ Rs F H r sg env st Q, Holds W Rs F H r st → EnvOk F r sg env → Post W Rs F r (fb env st) Q E → tb sg H Q)
    (qr : ∀ Rs F H rr st x y dx dy Q E, Holds W Rs F H rr st → Rep F rr x dx → Rep F rr y dy → Post W Rs F rr (g st dx dy) Q E → rd x y H Q)
    {Rs F H r sg env st Q} (hH : Holds W Rs F H r st) (hE : EnvOk F r sg env) (hP : Post W Rs F r (eOp g fa fb env st) Q E) : tOp rd ta tb sg H Q := by
  refine qa Rs F H r sg env st _ hH hE (bindX hP fun a ea q F1 H1 r1 v1 s1 x1 h1 k1 => ?_)
  refine qb Rs F1 H1 r1 sg env a.2 _ h1 (hE.mono s1 x1) (bindX (Post.later s1 x1 (res := (fb env a.2).bind _) q) fun b eb q2 F2 H2 r2 v2 s2 x2 h2 k2 => ?_)
  exact qr Rs F2 H2 r2 b.2 v1 v2 a.1 b.1 Q E h2 (k1.mono s2 x2) k2 (Post.later s2 x2 q2)
variable {a b : Expr} {fa fb : EV} {pos : Pos}
theorem de_op {op : Operator} {g : G2} (ho : DOp W X (binaryOp op) g) (ha : DE W X E a fa) (hb : DE W X E b fb) : DE W X E (.BinOp a op b pos) (eOp g fa fb) := by
  obtain ⟨r, hr, qr⟩ := ho
  obtain ⟨ta, pa, qa⟩ := ha.ex
  obtain ⟨tb, pb, qb⟩ := hb.ex
  exact .mk (pe_op hr pa pb) fun Rs F H rr sg env st Q hH hE hP => eOp_post qa qb qr hH hE hP
theorem de_cmp {op : CmpOp} {g : G2} (ho : DOp W X (compareOp op) g) (ha : DE W X E a fa) (hb : DE W X E b fb) (hm : behindInMarks op b = false) : DE W X E (.Compare a [op] [b] pos) (eOp g fa fb) := by
  obtain ⟨r, hr, qr⟩ := ho
  obtain ⟨ta, pa, qa⟩ := ha.ex
  obtain ⟨tb, pb, qb⟩ := hb.ex
  exact .mk (pe_cmpR hr pa pb hm) fun Rs F H rr sg env st Q hH hE hP => eOp_post qa qb qr hH hE hP
/-- a value that is a bool, as a test -/
def tv (f : EV) : TV := fun env st => (f env st).bind fun a => match a.1 with
  | .bl b => .ok (b, a.2)
  | _ => .bad
theorem tv_post {ta : TE} {f : EV} (qa : ∀ Rs F H r sg env st Q, Holds W Rs F H r st → EnvOk F r sg env → Post W Rs F r (f env st) Q E → ta sg H Q)
    {Rs F H r sg env st} {Q : Bool → Hp → Prop} (hH : Holds W Rs F H r st) (hE : EnvOk F r sg env) (hP : PostT W Rs F r (tv f env st) Q E) : ta sg H fun x H1 => ∃ k, x = .bl k ∧ Q k H1 := by
  refine qa Rs F H r sg env st _ hH hE (bindX hP fun a ea q F1 H1 r1 v1 s1 x1 h1 k1 => ?_)
  obtain ⟨d, st1⟩ := a
  cases d with
  | bl c => cases k1; exact ⟨c, rfl, q F1 H1 r1 s1 x1 h1⟩
  | _ => exact q.elim
theorem dt_cmp {op : CmpOp} {g : G2} (ho : DOp W X (compareOp op) g) (ha : DE W X E a fa) (hb : DE W X E b fb) (hm : behindInMarks op b = false) : DT W X E (.Compare a [op] [b] pos) (tv (eOp g fa fb)) := by
  obtain ⟨r, hr, qr⟩ := ho
  obtain ⟨ta, pa, qa⟩ := ha.ex
  obtain ⟨tb, pb, qb⟩ := hb.ex
  exact .mk (pt_cmpR hr pa pb hm) fun Rs F H rr sg env st Q hH hE hP => tv_post (fun Rs F H r sg env st Q hH hE hP => eOp_post qa qb qr hH hE hP) hH hE hP
theorem dt_val {e : Expr} {f : EV} (h : DE W X E e f) (he : ∀ whole, isTrue e X.env whole = (do let v ← whole; standAt e.pos; holding [v] (truthy v)) := by intro _; rfl) : DT W X E e (tv f) := by
  obtain ⟨t, p, q⟩ := h.ex
  exact .mk (pt_val p he) fun Rs F H rr sg env st Q hH hE hP => tv_post q hH hE hP
/-- a < b < c -/
def eChain (g g' : G2) (fa fb fc : EV) : EV := fun env st => (fa env st).bind fun a => (fb env a.2).bind fun b => (g b.2 a.1 b.1).bind fun z => match z.1 with
  | .bl true => (fc env z.2).bind fun c => g' c.2 b.1 c.1
  | .bl false => .ok (.bl false, z.2)
  | _ => .bad
theorem chain_post {c : Expr} {ta tb tc : TE} {rd rd' : R2} {fa fb fc : EV} {g g' : G2}
    (qa : ∀ Rs F H r sg env st Q, Holds W Rs F H r st → EnvOk F r sg env → Post W Rs F r (fa env st) Q E → ta sg H Q)
    (qb : ∀ Rs F H r sg env st Q, Holds W Rs F H r st → EnvOk F r sg env → Post W Rs F r (fb env st) Q E → tb sg H Q)
    (qc : ∀ Rs F H r sg env st Q, Holds W Rs F H r st → EnvOk F r sg env → Post W Rs F r (fc env st) Q E → tc sg H Q)
    (qr : ∀ Rs F H rr st x y dx dy Q E, Holds W Rs F H rr st → Rep F rr x dx → Rep F rr y dy → Post W Rs F rr (g st dx dy) Q E → rd x y H Q)
    (qr' : ∀ Rs F H rr st x y dx dy Q E, Holds W Rs F H rr st → Rep F rr x dx → Rep F rr y dy → Post W Rs F rr (g' st dx dy) Q E → rd' x y H Q)
    {Rs F H r sg env st Q} (hH : Holds W Rs F H r st) (hE : EnvOk F r sg env) (hP : Post W Rs F r (eChain g g' fa fb fc env st) Q E) : tChain rd rd' ta tb tc sg H Q := by
  refine qa Rs F H r sg env st _ hH hE (bindX hP fun a ea q F1 H1 r1 v1 s1 x1 h1 k1 => ?_)
  refine qb Rs F1 H1 r1 sg env a.2 _ h1 (hE.mono s1 x1) (bindX (Post.later s1 x1 (res := (fb env a.2).bind _) q) fun b eb q2 F2 H2 r2 v2 s2 x2 h2 k2 => ?_)
  refine qr Rs F2 H2 r2 b.2 v1 v2 a.1 b.1 _ E h2 (k1.mono s2 x2) k2 (bindX (Post.later s2 x2 (res := (g b.2 a.1 b.1).bind _) q2) fun z ez q3 F3 H3 r3 v3 s3 x3 h3 k3 => ?_)
  obtain ⟨dz, st3⟩ := z
  cases dz with
  | bl k =>
    cases k3
    refine ⟨k, rfl, ?_⟩
    cases k with
    | true =>
      show tc sg H3 fun u H4 => rd' v2 u H4 Q
      refine qc Rs F3 H3 r3 sg env st3 _ h3 (hE.mono ((s1.trans s2).trans s3) ((x1.trans x2).trans x3)) (bindX (Post.later s3 x3 (res := (fc env st3).bind _) q3) fun c ec q4 F4 H4 r4 v4 s4 x4 h4 k4 => ?_)
      exact qr' Rs F4 H4 r4 c.2 v2 v4 b.1 c.1 Q E h4 (k2.mono (s3.trans s4) (x3.trans x4)) k4 (Post.later s4 x4 q4)
    | false => exact q3 F3 H3 r3 (.bl false) s3 x3 h3 (.bl false)
  | _ => exact q3.elim
theorem de_chain {c : Expr} {fc : EV} {op op' : CmpOp} {g g' : G2} (ho : DOp W X (compareOp op) g) (ho' : DOp W X (compareOp op') g') (ha : DE W X E a fa) (hb : DE W X E b fb) (hc : DE W X E c fc)
    (hm : lastMarks [op, op'] [b, c] = false) : DE W X E (.Compare a [op, op'] [b, c] pos) (eChain g g' fa fb fc) := by
  obtain ⟨r, hr, qr⟩ := ho
  obtain ⟨r', hr', qr'⟩ := ho'
  obtain ⟨ta, pa, qa⟩ := ha.ex
  obtain ⟨tb, pb, qb⟩ := hb.ex
  obtain ⟨tc, pc, qc⟩ := hc.ex
  exact .mk (pe_chain hr hr' pa pb pc hm) fun Rs F H rr sg env st Q hH hE hP => chain_post (c := c) qa qb qc qr qr' hH hE hP
theorem dt_chain {c : Expr} {fc : EV} {op op' : CmpOp} {g g' : G2} (ho : DOp W X (compareOp op) g) (ho' : DOp W X (compareOp op') g') (ha : DE W X E a fa) (hb : DE W X E b fb) (hc : DE W X E c fc)
    (hm : lastMarks [op, op'] [b, c] = false) : DT W X E (.Compare a [op, op'] [b, c] pos) (tv (eChain g g' fa fb fc)) := by
  obtain ⟨r, hr, qr⟩ := ho
  obtain ⟨r', hr', qr'⟩ := ho'
  obtain ⟨ta, pa, qa⟩ := ha.ex
  obtain ⟨tb, pb, qb⟩ := hb.ex
  obtain ⟨tc, pc, qc⟩ := hc.ex
  exact .mk (pt_chain hr hr' pa pb pc hm) fun Rs F H rr sg env st Q hH hE hP => tv_post (fun Rs F H r sg env st Q hH hE hP => chain_post (c := c) qa qb qc qr qr' hH hE hP) hH hE hP
def tAndD (f g : TV) : TV := fun env st => (f env st).bind fun a => if a.1 = true then g env a.2 else .ok (false, a.2)
def tOrD (f g : TV) : TV := fun env st => (f env st).bind fun a => if a.1 = true then .ok (true, a.2) else g env a.2
def tNotD (f : TV) : TV := fun env st => (f env st).bind fun a => .ok (!a.1, a.2)
variable {rest : List Expr} {ga gb : TV}
theorem onT_here {Rs F H : Hp} {r : List Addr} {st : Store} {Q : Bool → Hp → Prop} {b : Bool} (h : Holds W Rs F H r st) (q : onT W Rs F r Q (b, st)) : Q b H := q F H r (Same.refl _) (Ext.refl _) h
theorem dw_and1 (h : DT W X E a ga) : DW W X E (.BoolOp .And [a] pos) ga := let ⟨t, p, q⟩ := h.ex; .mk (pw_and1 p) q
theorem dw_or1 (h : DT W X E a ga) : DW W X E (.BoolOp .Or [a] pos) ga := let ⟨t, p, q⟩ := h.ex; .mk (pw_or1 p) q
theorem dw_and (ha : DT W X E a ga) (hb : DW W X E (.BoolOp .And (b :: rest) pos) gb) : DW W X E (.BoolOp .And (a :: b :: rest) pos) (tAndD ga gb) := by
  obtain ⟨ta, pa, qa⟩ := ha.ex
  obtain ⟨tb, pb, qb⟩ := hb.ex
  refine .mk (pw_and pa pb) fun Rs F H rr sg env st Q hH hE hP => ?_
  refine qa Rs F H rr sg env st _ hH hE (bindX hP fun a ea q F1 H1 r1 s1 x1 h1 => ?_)
  obtain ⟨c, st1⟩ := a
  cases c with
  | true => exact qb Rs F1 H1 r1 sg env st1 Q h1 (hE.mono s1 x1) (PostT.later s1 x1 q)
  | false => exact q F1 H1 r1 s1 x1 h1
theorem dw_or (ha : DT W X E a ga) (hb : DW W X E (.BoolOp .Or (b :: rest) pos) gb) : DW W X E (.BoolOp .Or (a :: b :: rest) pos) (tOrD ga gb) := by
  obtain ⟨ta, pa, qa⟩ := ha.ex
  obtain ⟨tb, pb, qb⟩ := hb.ex
  refine .mk (pw_or pa pb) fun Rs F H rr sg env st Q hH hE hP => ?_
  refine qa Rs F H rr sg env st _ hH hE (bindX hP fun a ea q F1 H1 r1 s1 x1 h1 => ?_)
  obtain ⟨c, st1⟩ := a
  cases c with
  | true => exact q F1 H1 r1 s1 x1 h1
  | false => exact qb Rs F1 H1 r1 sg env st1 Q h1 (hE.mono s1 x1) (PostT.later s1 x1 q)
theorem dt_w (h : DW W X E a ga) : DT W X E a ga := let ⟨t, p, q⟩ := h.ex; .mk (p.pt) q
theorem dt_not (h : DT W X E a ga) : DT W X E (.UnaryOp .Not a pos) (tNotD ga) := by
  obtain ⟨ta, pa, qa⟩ := h.ex
  refine .mk (pt_not pa) fun Rs F H rr sg env st Q hH hE hP => ?_
  exact qa Rs F H rr sg env st _ hH hE (bindX hP fun a ea q F1 H1 r1 s1 x1 h1 => q F1 H1 r1 s1 x1 h1)
def eAnd (f g : EV) : EV := fun env st => (f env st).bind fun a => match a.1 with
  | .bl true => g env a.2
  | .bl false => .ok (.bl false, a.2)
  | _ => .bad
def eOr (f g : EV) : EV := fun env st => (f env st).bind fun a => match a.1 with
  | .bl true => .ok (.bl true, a.2)
  | .bl false => g env a.2
  | _ => .bad
def eNot (f : EV) : EV := fun env st => (f env st).bind fun a => match a.1 with
  | .bl b => .ok (.bl (!b), a.2)
  | _ => .bad
theorem de_one {op} {f : EV} (h : DE W X E a f) : DE W X E (.BoolOp op [a] pos) f := let ⟨t, p, q⟩ := h.ex; .mk (pe_one p) q
theorem de_and (ha : DE W X E a fa) (hb : DE W X E (.BoolOp .And (b :: rest) pos) fb) : DE W X E (.BoolOp .And (a :: b :: rest) pos) (eAnd fa fb) := by
  obtain ⟨ta, pa, qa⟩ := ha.ex
  obtain ⟨tb, pb, qb⟩ := hb.ex
  refine .mk (pe_and pa pb) fun Rs F H rr sg env st Q hH hE hP => ?_
  refine qa Rs F H rr sg env st _ hH hE (bindX hP fun a ea q F1 H1 r1 v1 s1 x1 h1 k1 => ?_)
  obtain ⟨d, st1⟩ := a
  cases d with
  | bl c =>
    cases k1
    refine ⟨c, rfl, ?_⟩
    cases c with
    | true => exact qb Rs F1 H1 r1 sg env st1 Q h1 (hE.mono s1 x1) (Post.later s1 x1 q)
    | false => exact q F1 H1 r1 _ s1 x1 h1 (.bl false)
  | _ => exact q.elim
theorem de_not (h : DE W X E a fa) : DE W X E (.UnaryOp .Not a pos) (eNot fa) := by
  obtain ⟨ta, pa, qa⟩ := h.ex
  refine .mk (pe_not pa) fun Rs F H rr sg env st Q hH hE hP => ?_
  refine qa Rs F H rr sg env st _ hH hE (bindX hP fun a ea q F1 H1 r1 v1 s1 x1 h1 k1 => ?_)
  obtain ⟨d, st1⟩ := a
  cases d with
  | bl c => cases k1; exact ⟨c, rfl, q F1 H1 r1 _ s1 x1 h1 (.bl _)⟩
  | _ => exact q.elim
def eIf (t : TV) (f g : EV) : EV := fun env st => (t env st).bind fun a => if a.1 = true then f env a.2 else g env a.2
theorem de_if {c : Expr} (hc : DT W X E c ga) (ha : DE W X E a fa) (hb : DE W X E b fb) : DE W X E (.IfExp c a b pos) (eIf ga fa fb) := by
  obtain ⟨tc, pc, qc⟩ := hc.ex
  obtain ⟨ta, pa, qa⟩ := ha.ex
  obtain ⟨tb, pb, qb⟩ := hb.ex
  refine .mk (pe_ifExp pc pa pb) fun Rs F H rr sg env st Q hH hE hP => ?_
  refine qc Rs F H rr sg env st _ hH hE (bindX hP fun a ea q F1 H1 r1 s1 x1 h1 => ?_)
  obtain ⟨c, st1⟩ := a
  cases c with
  | true => exact qa Rs F1 H1 r1 sg env st1 Q h1 (hE.mono s1 x1) (Post.later s1 x1 q)
  | false => exact qb Rs F1 H1 r1 sg env st1 Q h1 (hE.mono s1 x1) (Post.later s1 x1 q)
def aNil : AV := fun _ st => .ok ([], st)
def aCons (f : EV) (g : AV) : AV := fun env st => (f env st).bind fun a => (g env a.2).bind fun b => .ok (a.1 :: b.1, b.2)
theorem da_nil : DA W X E [] aNil := .mk pa_nil fun Rs F H rr sg env st Q hH hE hP => hP F H rr [] (Same.refl _) (Ext.refl _) hH .nil
theorem da_cons {e : Expr} {es : List Expr} {f : EV} {g : AV} (he : DE W X E e f) (hr : DA W X E es g) (hs : starEach (e :: es) X.env = (false, eval e X.env) :: starEach es X.env := by rfl) : DA W X E (e :: es) (aCons f g) := by
  obtain ⟨te, pe, qe⟩ := he.ex
  obtain ⟨tr, pr, qr⟩ := hr.ex
  refine .mk (pa_cons pe pr hs) fun Rs F H rr sg env st Q hH hE hP => ?_
  refine qe Rs F H rr sg env st _ hH hE (bindX hP fun a ea q F1 H1 r1 v1 s1 x1 h1 k1 => ?_)
  refine qr Rs F1 H1 r1 sg env a.2 _ h1 (hE.mono s1 x1) (bindX (PostA.later s1 x1 (res := (g env a.2).bind _) q) fun b eb q2 F2 H2 r2 vs s2 x2 h2 k2 => ?_)
  exact q2 F2 H2 r2 (v1 :: vs) s2 x2 h2 (.cons (k1.mono s2 x2) k2)
/-- a list laid: frozen, or into the store -/
def newL (m : Bool) (ds : List D) (st : Store) : R (D × Store) := if m = true then .ok (.ref st.length, st ++ [.lst ds]) else .ok (.lst ds, st)
theorem newL_post {m : Bool} {Rs F H : Hp} {r : List Addr} {st : Store} {Q : VK} {vs : List V} {ds : List D} {p : Addr} (h : Holds W Rs F H r st) (k : Reps F r vs ds) (q : Post W Rs F r (newL m ds st) Q E) (e : H p = none) : Q (.ref p) (upd H p (.lst vs)) := by
  unfold newL at q
  cases m with
  | true =>
    refine q F (upd H p (.lst vs)) (r ++ [p]) (.ref p) (Same.refl _) (Ext.snoc _ _) (h.fresh e ⟨vs, upd_same, k.mono (Same.refl _) (Ext.snoc _ _)⟩) (.ref ?_)
    show (r ++ [p])[st.length]? = some p
    rw [← h.len, List.getElem?_append_right (Nat.le_refl _)]; simp
  | false =>
    obtain ⟨s, h'⟩ := h.frozen (o := .lst vs) e
    exact q _ _ r (.ref p) s (Ext.refl _) h' (.lst upd_same (k.mono s (Ext.refl _)))
theorem tup_post {Rs F H : Hp} {r : List Addr} {st : Store} {Q : VK} {vs : List V} {ds : List D} {p : Addr} (h : Holds W Rs F H r st) (k : Reps F r vs ds) (q : onE W Rs F r Q (.tup ds, st)) (e : H p = none) : Q (.ref p) (upd H p (.tup vs)) := by
  obtain ⟨s, h'⟩ := h.frozen (o := .tup vs) e
  exact q _ _ r (.ref p) s (Ext.refl _) h' (.tup upd_same (k.mono s (Ext.refl _)))
theorem lim_line {n : Nat} (h : n ≤ LIM) : n ≤ sizeLine := Nat.le_trans h (by decide)
theorem lim_lt {n : Nat} (h : n ≤ LIM) : n < sizeLine := Nat.lt_of_le_of_lt h (by decide)
def eTup (g : AV) : EV := fun env st => (g env st).bind fun a => if a.1.length ≤ LIM then .ok (.tup a.1, a.2) else .bad
def eLst (m : Bool) (g : AV) : EV := fun env st => (g env st).bind fun a => if a.1.length ≤ LIM then newL m a.1 a.2 else .bad
theorem de_tup {es : List Expr} {g : AV} {x1} (h : DA W X E es g) : DE W X E (.Tuple es x1 pos) (eTup g) := by
  obtain ⟨t, p, q⟩ := h.ex
  refine .mk (pe_tup p) fun Rs F H rr sg env st Q hH hE hP => ?_
  refine q Rs F H rr sg env st _ hH hE (bindX hP fun a ea q F1 H1 r1 vs s1 x1 h1 k1 => ?_)
  by_cases hl : a.1.length ≤ LIM
  · rw [if_pos hl] at q
    exact ⟨by rw [k1.length]; exact lim_line hl, fun pp hp => tup_post h1 k1 (Post.later s1 x1 (res := .ok (.tup a.1, a.2)) q) hp⟩
  · rw [if_neg hl] at q; exact q.elim
theorem de_lst (m : Bool) {es : List Expr} {g : AV} (h : DA W X E es g) : DE W X E (.List es pos) (eLst m g) := by
  obtain ⟨t, p, q⟩ := h.ex
  refine .mk (pe_lst p) fun Rs F H rr sg env st Q hH hE hP => ?_
  refine q Rs F H rr sg env st _ hH hE (bindX hP fun a ea q F1 H1 r1 vs s1 x1 h1 k1 => ?_)
  by_cases hl : a.1.length ≤ LIM
  · rw [if_pos hl] at q
    exact ⟨by rw [k1.length]; exact lim_line hl, fun pp hp => newL_post (m := m) h1 k1 (Post.later s1 x1 q) hp⟩
  · rw [if_neg hl] at q; exact q.elim
end
def lstOf (st : Store) : D → Option (List D)
  | .lst ds => some ds
  | .ref n => match st[n]? with
    | some (.lst ds) => some ds
    | _ => none
  | _ => none
theorem lstOf_ok {W : Wd} {Rs F H : Hp} {r : List Addr} {st : Store} {v : V} {d : D} {ds : List D} (h : Holds W Rs F H r st) (k : Rep F r v d) (e : lstOf st d = some ds) : ∃ a vs, v = .ref a ∧ H a = some (.lst vs) ∧ Reps F r vs ds := by
  cases k with
  | lst q k => cases e; exact ⟨_, _, rfl, h.sF _ _ q, k⟩
  | @ref a n q =>
    unfold lstOf at e
    simp only at e
    split at e
    · rename_i ds' e'
      cases e
      have hh := h.ob n a _ q e'
      obtain ⟨vs, e1, k⟩ := hh
      exact ⟨a, vs, rfl, e1, k⟩
    · cases e
  | _ => cases e
end Dl
namespace Dl
open PySem L2
section
variable {W : Wd} {X : Cx} {E : XK}
theorem DOp.of {f : Value → Value → Sem Value} {r : R2} {g : G2} (h : OpR X f r) (k : ∀ Rs F H rr st x y dx dy Q E, Holds W Rs F H rr st → Rep F rr x dx → Rep F rr y dy → Post W Rs F rr (g st dx dy) Q E → r x y H Q) : DOp W X f g := ⟨r, h, k⟩
def optAll {A : Type} : List (Option A) → Option (List A)
  | [] => some []
  | none :: _ => none
  | some a :: r => match optAll r with
    | some l => some (a :: l)
    | none => none
def toP (st : Store) : Nat → D → Option PyData
  | 0, _ => none
  | n + 1, d => match d with
    | .non => some .none
    | .bl b => some (.bool b)
    | .int i => some (.int i)
    | .str s => some (.str ⟨s.toArray⟩)
    | .tup ds => match optAll (ds.map (toP st n)) with
      | some ps => some (.tuple ps)
      | none => none
    | .lst ds => match optAll (ds.map (toP st n)) with
      | some ps => some (.list ps)
      | none => none
    | .ref k => match st[k]? with
      | some (.lst ds) => match optAll (ds.map (toP st n)) with
        | some ps => some (.list ps)
        | none => none
      | _ => none
    | .scr _ => none
    | .exn _ _ => none
theorem strOk_of {s : List Nat} (h : s.all (fun c => decide (c < 128)) = true) : PyData.strOk ⟨s.toArray⟩ = true := by
  unfold PyData.strOk
  rw [List.all_eq_true] at h
  simp only [List.size_toArray, List.all_toArray', List.all_eq_true, decide_eq_true_eq]
  intro x hx
  have := of_decide_eq_true (h x hx)
  omega
section
variable {Rs F H : Hp} {r : List Addr} {st : Store}
theorem toP_ok (h : Holds W Rs F H r st) : ∀ (n : Nat) (d : D) (v : V) (p : PyData), Rep F r v d → toP st n d = some p → Dp W.K H v p ∧ p.canLay0 = true ∧ p.depth ≤ n
  | 0, _, _, _, _, e => by cases e
  | n + 1, d, v, p, k, e => by
    have all : ∀ (ds : List D) (vs : List V) (ps : List PyData), Reps F r vs ds → optAll (ds.map (toP st n)) = some ps → DpAll W.K H vs ps ∧ PyData.canLayAll0 ps = true ∧ PyData.depthAll ps ≤ n := by
      intro ds
      induction ds with
      | nil => intro vs ps k e; cases k; cases e; exact ⟨.nil, rfl, Nat.zero_le _⟩
      | cons d ds ih =>
        intro vs ps k e
        cases k with
        | cons k1 k2 =>
          rw [List.map_cons] at e
          cases e1 : toP st n d with
          | none => rw [e1] at e; cases e
          | some p1 =>
            rw [e1] at e
            unfold optAll at e
            cases e2 : optAll (ds.map (toP st n)) with
            | none => rw [e2] at e; cases e
            | some ps2 =>
              rw [e2] at e
              cases e
              obtain ⟨a1, a2, a3⟩ := toP_ok h n d _ _ k1 e1
              obtain ⟨b1, b2, b3⟩ := ih _ _ k2 e2
              refine ⟨.cons a1 b1, ?_, ?_⟩
              · unfold PyData.canLayAll0; rw [a2, b2]; rfl
              · unfold PyData.depthAll; omega
    cases k with
    | non => cases e; exact ⟨.non, rfl, Nat.zero_le _⟩
    | bl b => cases e; exact ⟨.bl b, rfl, Nat.zero_le _⟩
    | int i => cases e; exact ⟨.int i, rfl, Nat.zero_le _⟩
    | str s a l => cases e; exact ⟨.str _, strOk_of a, Nat.zero_le _⟩
    | scr q => cases e
    | exn0 => cases e
    | exn1 q => cases e
    | tup q k =>
      unfold toP at e
      simp only at e
      split at e
      · rename_i ps e'
        cases e
        obtain ⟨a1, a2, a3⟩ := all _ _ _ k e'
        refine ⟨.tup (.of (h.sF _ _ q)) a1, ?_, ?_⟩
        · unfold PyData.canLay0; exact a2
        · unfold PyData.depth; omega
      · cases e
    | lst q k =>
      unfold toP at e
      simp only at e
      split at e
      · rename_i ps e'
        cases e
        obtain ⟨a1, a2, a3⟩ := all _ _ _ k e'
        refine ⟨.lst (.of (h.sF _ _ q)) a1, ?_, ?_⟩
        · unfold PyData.canLay0; exact a2
        · unfold PyData.depth; omega
      · cases e
    | @ref a m q =>
      unfold toP at e
      simp only at e
      split at e
      · rename_i ds e0
        split at e
        · rename_i ps e'
          cases e
          obtain ⟨vs, q', k⟩ := h.ob m a _ q e0
          obtain ⟨a1, a2, a3⟩ := all _ _ _ k e'
          refine ⟨.lst (.of q') a1, ?_, ?_⟩
          · unfold PyData.canLay0; exact a2
          · unfold PyData.depth; omega
        · cases e
      · cases e
end
def eqG (neg : Bool) : G2 := fun st d e => match toP st 40 d, toP st 40 e with
  | some p, some q => .ok (.bl (if neg = true then !PyData.eqv p q else PyData.eqv p q), st)
  | _, _ => .bad
theorem shaped_of {p : PyData} (a : p.canLay0 = true) (b : p.depth ≤ 40) : SeqAt.shaped p = true := by
  unfold SeqAt.shaped
  rw [a, decide_eq_true (show p.depth ≤ 64 by omega)]; rfl
theorem dop_eq (hK : X.K = W.K) (hu : X.A.units + 64 < cLine) : DOp W X (compareOp .Eq) (eqG false) := .of (op_eqD hu) fun Rs F H rr st x y dx dy Q E h kx ky hP => by
  unfold eqG at hP
  split at hP
  · rename_i p q e1 e2
    obtain ⟨a1, a2, a3⟩ := toP_ok h _ _ _ _ kx e1
    obtain ⟨b1, b2, b3⟩ := toP_ok h _ _ _ _ ky e2
    exact ⟨p, q, by rw [hK]; exact a1, by rw [hK]; exact b1, shaped_of a2 a3, shaped_of b2 b3, onE_here h (.bl _) hP⟩
  · exact hP.elim
theorem dop_ne (hK : X.K = W.K) (hu : X.A.units + 64 < cLine) : DOp W X (compareOp .NotEq) (eqG true) := .of (op_neD hu) fun Rs F H rr st x y dx dy Q E h kx ky hP => by
  unfold eqG at hP
  split at hP
  · rename_i p q e1 e2
    obtain ⟨a1, a2, a3⟩ := toP_ok h _ _ _ _ kx e1
    obtain ⟨b1, b2, b3⟩ := toP_ok h _ _ _ _ ky e2
    exact ⟨p, q, by rw [hK]; exact a1, by rw [hK]; exact b1, shaped_of a2 a3, shaped_of b2 b3, onE_here h (.bl _) hP⟩
  · exact hP.elim
def ltG : G2 := fun st d e => match d, e with
  | .int i, .int j => .ok (.bl (decide (i < j)), st)
  | _, _ => .bad
def gtG : G2 := fun st d e => match d, e with
  | .int i, .int j => .ok (.bl (decide (j < i)), st)
  | _, _ => .bad
def geG : G2 := fun st d e => match d, e with
  | .int i, .int j => .ok (.bl (decide (j ≤ i)), st)
  | _, _ => .bad
def leG : G2 := fun st d e => match d, e with
  | .int i, .int j => .ok (.bl (decide (i ≤ j)), st)
  | .str a, .str b => .ok (.bl (!decide (b < a)), st)
  | _, _ => .bad
theorem dop_lt : DOp W X (compareOp .Lt) ltG := .of op_lt fun Rs F H rr st x y dx dy Q E h kx ky hP => by
  cases kx <;> cases ky <;> first | exact hP.elim | exact ⟨_, _, rfl, rfl, onE_here h (.bl _) hP⟩
theorem dop_gt : DOp W X (compareOp .Gt) gtG := .of op_gt fun Rs F H rr st x y dx dy Q E h kx ky hP => by
  cases kx <;> cases ky <;> first | exact hP.elim | exact ⟨_, _, rfl, rfl, onE_here h (.bl _) hP⟩
theorem dop_ge : DOp W X (compareOp .GtE) geG := .of op_ge fun Rs F H rr st x y dx dy Q E h kx ky hP => by
  cases kx <;> cases ky <;> first | exact hP.elim | exact ⟨_, _, rfl, rfl, onE_here h (.bl _) hP⟩
theorem dop_le : DOp W X (compareOp .LtE) leG := .of (op_le.or op_le_str) fun Rs F H rr st x y dx dy Q E h kx ky hP => by
  cases kx <;> cases ky <;> first | exact hP.elim | exact .inl ⟨_, _, rfl, rfl, onE_here h (.bl _) hP⟩ | exact .inr ⟨_, _, rfl, rfl, onE_here h (.bl _) hP⟩
def isG (neg : Bool) : G2 := fun st d e => match d, e with
  | .bl a, .bl b => .ok (.bl (if neg = true then !decide (a = b) else decide (a = b)), st)
  | .non, .non => .ok (.bl (!neg), st)
  | _, .non => .ok (.bl neg, st)
  | _, _ => .bad
theorem dop_is : DOp W X (compareOp .Is) (isG false) := .of (op_isN.or op_isBl) fun Rs F H rr st x y dx dy Q E h kx ky hP => by
  cases kx <;> cases ky <;> first | exact hP.elim | exact .inl ⟨rfl, onE_here h (.bl _) hP⟩ | exact .inr ⟨_, _, rfl, rfl, onE_here h (.bl _) hP⟩
theorem dop_isnot : DOp W X (compareOp .IsNot) (isG true) := .of (op_notN.or op_notBl) fun Rs F H rr st x y dx dy Q E h kx ky hP => by
  cases kx <;> cases ky <;> first | exact hP.elim | exact .inl ⟨rfl, onE_here h (.bl _) hP⟩ | exact .inr ⟨_, _, rfl, rfl, onE_here h (.bl _) hP⟩
def addG (m : Bool) : G2 := fun st d e => match d, e with
  | .int i, .int j => .ok (.int (i + j), st)
  | .str a, .str b => if a.length + b.length ≤ LIM then .ok (.str (a ++ b), st) else .bad
  | .tup a, .tup b => if a.length + b.length ≤ LIM then .ok (.tup (a ++ b), st) else .bad
  | d, e => match lstOf st d, lstOf st e with
    | some a, some b => if a.length + b.length ≤ LIM then newL m (a ++ b) st else .bad
    | _, _ => .bad
theorem str_app (a b : List Nat) : ((⟨a.toArray⟩ : Str) ++ ⟨b.toArray⟩) = ⟨(a ++ b).toArray⟩ := TL.ext_tl (by rw [TL.tl_append])
theorem len_mk (a : List Nat) : (⟨a.toArray⟩ : Str).length = a.length := by simp [Str.length]
theorem rep_app {F : Hp} {r : List Addr} {a b : List Nat} (h1 : a.all (fun c => decide (c < 128)) = true) (h2 : b.all (fun c => decide (c < 128)) = true) (h : a.length + b.length ≤ LIM) : Rep F r (.str ((⟨a.toArray⟩ : Str) ++ ⟨b.toArray⟩)) (.str (a ++ b)) := by
  rw [str_app]
  exact .str _ (by rw [List.all_append, h1, h2]; rfl) (by simpa using h)
theorem dop_add (m : Bool) : DOp W X (binaryOp .Add) (addG m) := .of (op_add.or (op_add_str.or (op_catA.or op_cat))) fun Rs F H rr st x y dx dy Q E h kx ky hP => by
  have lists : (match lstOf st dx, lstOf st dy with
    | some a, some b => if a.length + b.length ≤ LIM then newL m (a ++ b) st else .bad
    | _, _ => (.bad : R (D × Store))) = addG m st dx dy → rCat x y H Q := fun eq => by
    rw [← eq] at hP
    split at hP
    · rename_i a b e1 e2
      by_cases hl : a.length + b.length ≤ LIM
      · rw [if_pos hl] at hP
        obtain ⟨p, vs, rfl, h1, k1⟩ := lstOf_ok h kx e1
        obtain ⟨q, ws, rfl, h2, k2⟩ := lstOf_ok h ky e2
        exact ⟨p, q, vs, ws, rfl, rfl, h1, h2, by rw [k1.length, k2.length]; exact lim_line hl, fun pp hp => newL_post h (Reps.append k1 k2) hP hp⟩
      · rw [if_neg hl] at hP; exact hP.elim
    · exact hP.elim
  cases kx with
  | int i =>
    cases ky with
    | int j => exact .inl ⟨_, _, rfl, rfl, onE_here h (.int _) hP⟩
    | _ => exact hP.elim
  | str a ha hal =>
    cases ky with
    | str b hb hbl =>
      refine .inr (.inl ⟨_, _, rfl, rfl, ?_⟩)
      by_cases hl : a.length + b.length ≤ LIM
      · unfold addG at hP
        simp only at hP
        rw [if_pos hl] at hP
        exact ⟨by rw [len_mk, len_mk]; exact lim_line hl, onE_here h (rep_app ha hb hl) hP⟩
      · unfold addG at hP
        simp only at hP
        rw [if_neg hl] at hP; exact hP.elim
    | _ => exact hP.elim
  | @tup p vs ds q1 k1 =>
    cases ky with
    | @tup p2 ws es q2 k2 =>
      refine .inr (.inr (.inl ?_))
      by_cases hl : ds.length + es.length ≤ LIM
      · unfold addG at hP
        simp only at hP
        rw [if_pos hl] at hP
        refine ⟨_, _, vs, ws, rfl, rfl, .of (h.sF _ _ q1), .of (h.sF _ _ q2), by rw [k1.length, k2.length]; exact lim_line hl, fun e => ?_, fun e1 e2 => ?_, fun e1 e2 pp hp => ?_⟩
        · subst e
          cases k1
          exact onE_here h (.tup q2 k2) hP
        · subst e2
          cases k2
          rw [List.append_nil] at hP
          exact onE_here h (.tup q1 k1) hP
        · exact tup_post h (Reps.append k1 k2) hP hp
      · unfold addG at hP
        simp only at hP
        rw [if_neg hl] at hP; exact hP.elim
    | _ => exact hP.elim
  | non => exact .inr (.inr (.inr (lists rfl)))
  | bl b => exact .inr (.inr (.inr (lists rfl)))
  | lst q k => exact .inr (.inr (.inr (lists rfl)))
  | ref q => exact .inr (.inr (.inr (lists rfl)))
  | scr q => exact .inr (.inr (.inr (lists rfl)))
  | exn0 => exact .inr (.inr (.inr (lists rfl)))
  | exn1 q => exact .inr (.inr (.inr (lists rfl)))
def subG : G2 := fun st d e => match d, e with
  | .int i, .int j => .ok (.int (i - j), st)
  | _, _ => .bad
theorem dop_sub : DOp W X (binaryOp .Sub) subG := .of op_sub fun Rs F H rr st x y dx dy Q E h kx ky hP => by
  cases kx <;> cases ky <;> first | exact hP.elim | exact ⟨_, _, rfl, rfl, onE_here h (.int _) hP⟩
def divG : G2 := fun st d e => match d, e with
  | .int i, .int j => if 0 < j ∧ j < 2 ^ 64 then .ok (.int (i / j), st) else .bad
  | _, _ => .bad
theorem dop_div : DOp W X (binaryOp .FloorDiv) divG := .of op_fdivW fun Rs F H rr st x y dx dy Q E h kx ky hP => by
  cases kx <;> cases ky <;> first | exact hP.elim | skip
  rename_i i j
  unfold divG at hP
  simp only at hP
  by_cases hl : 0 < j ∧ j < 2 ^ 64
  · rw [if_pos hl] at hP
    exact ⟨_, _, rfl, rfl, wide_div hl.1 (b := 64) (by omega) (by decide) (by decide), onE_here h (.int _) hP⟩
  · rw [if_neg hl] at hP; exact hP.elim
def modG : G2 := fun st d e => match d, e with
  | .int i, .int j => if 0 < j then .ok (.int (i % j), st) else .bad
  | _, _ => .bad
theorem dop_mod : DOp W X (binaryOp .Mod) modG := .of op_mod fun Rs F H rr st x y dx dy Q E h kx ky hP => by
  cases kx <;> cases ky <;> first | exact hP.elim | skip
  rename_i i j
  unfold modG at hP
  simp only at hP
  by_cases hl : 0 < j
  · rw [if_pos hl] at hP
    exact ⟨_, _, rfl, rfl, hl, onE_here h (.int _) hP⟩
  · rw [if_neg hl] at hP; exact hP.elim
def powG : G2 := fun st d e => match d, e with
  | .int i, .int j => if 0 ≤ j ∧ j ≤ 1000 ∧ i.natAbs < 2 ^ 64 then .ok (.int (i ^ j.toNat), st) else .bad
  | _, _ => .bad
theorem dop_pow : DOp W X (binaryOp .Pow) powG := .of op_pow fun Rs F H rr st x y dx dy Q E h kx ky hP => by
  cases kx <;> cases ky <;> first | exact hP.elim | skip
  rename_i i j
  unfold powG at hP
  simp only at hP
  by_cases hl : 0 ≤ j ∧ j ≤ 1000 ∧ i.natAbs < 2 ^ 64
  · rw [if_pos hl] at hP
    exact ⟨_, _, rfl, rfl, ⟨hl.1, by omega, hl.2.2⟩, onE_here h (.int _) hP⟩
  · rw [if_neg hl] at hP; exact hP.elim
/-- a text taken several times -/
def rMulS : R2 := fun x y H Q => ∃ z n, x = .str z ∧ y = .int n ∧ n ≤ 1000000 ∧ -1000000 ≤ n ∧ z.length * n.toNat ≤ 1000000 ∧ Q (.str ⟨(List.replicate n.toNat z.cps.toList).flatten.toArray⟩) H
theorem foldl_arr (a : Array Nat) : ∀ (k : Nat) (acc : Array Nat), (List.replicate k a).foldl (· ++ ·) acc = (acc.toList ++ (List.replicate k a.toList).flatten).toArray
  | 0, acc => by simp
  | k + 1, acc => by
    rw [List.replicate_succ, List.foldl_cons, foldl_arr a k, List.replicate_succ, List.flatten_cons]
    simp
theorem op_mulS : OpR X (binaryOp .Mult) rMulS := by
  intro pins s sg H x y v u Q I rx ry h
  obtain ⟨z, n, rfl, rfl, h1, h2, h3, q⟩ := h
  obtain ⟨t, rfl⟩ := rx
  obtain ⟨t', rfl⟩ := ry
  have fin : ∀ (w : Str) (u : Value) (s' : Shared), RelV (.str w) u → Inv X pins sg H s' → w = ⟨(List.replicate n.toNat z.cps.toList).flatten.toArray⟩ → EP X pins sg Q u s' := fun w u s' r I' e => ⟨.str w, H, I', r, by rw [e]; exact q⟩
  by_cases hn : n < 1
  · refine PySem.P.mul_str_none hn (by omega) (fin Str.empty _ _ ⟨_, rfl⟩ (I.tok _) ?_)
    have e : n.toNat = 0 := by omega
    rw [e]; rfl
  · refine PySem.P.mul_str ?_ ?_ ?_ ?_
    · rw [decide_eq_false (by omega), decide_eq_false (by omega)]; rfl
    · intro _ hb
      have hz : z.length ≤ 1000000 := by
        have : 1 ≤ n.toNat := by omega
        exact Nat.le_trans (Nat.le_mul_of_pos_right _ this) h3
      have : (1000000 : Int) ≤ (2 ^ 63 - 1 : Int) / n := by
        rw [Int.le_ediv_iff_mul_le (by omega)]
        omega
      omega
    · intro _ hb
      unfold Builtin.Str.tooLong
      have hs : (sizeLine : Nat) = 16777216 := sizeLine_eq
      simp only [decide_eq_false_iff_not]
      omega
    · rw [if_neg hn]
      by_cases hb : (n == 1 || z.length == 0) = true
      · rw [if_pos hb]
        refine fin z _ _ ⟨_, rfl⟩ I ?_
        rw [Bool.or_eq_true, beq_iff_eq, beq_iff_eq] at hb
        apply TL.ext_tl
        rw [TL.tl_mk]
        rcases hb with hb | hb
        · subst hb; simp [TL.tl]
        · have : z.cps.toList = [] := by
            have : z.cps.toList.length = 0 := by simpa [Str.length] using hb
            exact List.length_eq_zero_iff.mp this
          rw [this]; simp [TL.tl, this]
      · rw [if_neg hb]
        have e : (List.replicate n.toNat z.cps).foldl (· ++ ·) #[] = (List.replicate n.toNat z.cps.toList).flatten.toArray := by rw [foldl_arr]; simp
        refine ⟨?_, fin _ _ _ ⟨_, rfl⟩ (I.tok _) (by rw [e])⟩
        rw [e]
        show (List.replicate n.toNat z.cps.toList).flatten.toArray.size ≤ sizeLine
        have hs : (sizeLine : Nat) = 16777216 := sizeLine_eq
        rw [List.size_toArray, List.length_flatten, List.map_replicate, List.sum_replicate_nat]
        have : z.cps.toList.length = z.length := by simp [Str.length]
        rw [this, Nat.mul_comm]
        omega
def mulG (m : Bool) : G2 := fun st d e => match d, e with
  | .int i, .int j => if (-(2 ^ 64) < i ∧ i < 2 ^ 64) ∨ (-(2 ^ 64) < j ∧ j < 2 ^ 64) then .ok (.int (i * j), st) else .bad
  | .str s, .int n => if -1000000 ≤ n ∧ n ≤ 1000000 ∧ s.length * n.toNat ≤ LIM then .ok (.str (List.replicate n.toNat s).flatten, st) else .bad
  | .tup ds, .int n => if ds ≠ [] ∧ 2 ≤ n ∧ n ≤ 1000 ∧ ds.length ≤ 1000 then .ok (.tup (List.replicate n.toNat ds).flatten, st) else .bad
  | d, .int n => match lstOf st d with
    | some ds => if -1000000 ≤ n ∧ n ≤ 1000000 ∧ ds.length * n.toNat ≤ LIM then newL m (List.replicate n.toNat ds).flatten st else .bad
    | none => .bad
  | _, _ => .bad
theorem all_rep {s : List Nat} {p : Nat → Bool} (h : s.all p = true) : ∀ k : Nat, (List.replicate k s).flatten.all p = true
  | 0 => rfl
  | k + 1 => by rw [List.replicate_succ, List.flatten_cons, List.all_append, h, all_rep h k]; rfl
theorem len_rep {A : Type} (s : List A) (k : Nat) : (List.replicate k s).flatten.length = s.length * k := by
  rw [List.length_flatten, List.map_replicate, List.sum_replicate_nat, Nat.mul_comm]
theorem dop_mul (m : Bool) : DOp W X (binaryOp .Mult) (mulG m) := .of (op_mul.or (op_mulS.or (op_repT.or op_rep))) fun Rs F H rr st x y dx dy Q E h kx ky hP => by
  have lists : ∀ n, y = .int n → (match lstOf st dx with
    | some ds => if -1000000 ≤ n ∧ n ≤ 1000000 ∧ ds.length * n.toNat ≤ LIM then newL m (List.replicate n.toNat ds).flatten st else .bad
    | none => (.bad : R (D × Store))) = mulG m st dx dy → rRep x y H Q := fun n ey eq => by
    rw [← eq] at hP
    split at hP
    · rename_i a e1
      by_cases hl : -1000000 ≤ n ∧ n ≤ 1000000 ∧ a.length * n.toNat ≤ LIM
      · rw [if_pos hl] at hP
        obtain ⟨p, vs, rfl, h1, k1⟩ := lstOf_ok h kx e1
        exact ⟨p, n, vs, rfl, ey, h1, by omega, by omega, by rw [k1.length]; exact lim_line hl.2.2, fun pp hp => newL_post h (Reps.flat k1 _) hP hp⟩
      · rw [if_neg hl] at hP; exact hP.elim
    · exact hP.elim
  cases ky with
  | int n =>
    cases kx with
    | int i =>
      unfold mulG at hP
      simp only at hP
      split at hP
      · rename_i hc
        exact .inl ⟨_, _, rfl, rfl, hc, onE_here h (.int _) hP⟩
      · exact hP.elim
    | str a ha hal =>
      unfold mulG at hP
      simp only at hP
      split at hP
      · rename_i hc
        refine .inr (.inl ⟨_, _, rfl, rfl, hc.2.1, hc.1, by rw [len_mk]; exact hc.2.2, ?_⟩)
        refine onE_here h ?_ hP
        exact .str _ (all_rep ha _) (by rw [len_rep]; exact hc.2.2)
      · exact hP.elim
    | @tup p vs ds q1 k1 =>
      unfold mulG at hP
      simp only at hP
      split at hP
      · rename_i hc
        refine .inr (.inr (.inl ⟨_, _, vs, rfl, rfl, .of (h.sF _ _ q1), fun e => hc.1 ?_, hc.2.1, hc.2.2.1, by rw [k1.length]; exact hc.2.2.2, fun pp hp => tup_post h (Reps.flat k1 _) hP hp⟩))
        subst e; cases k1; rfl
      · exact hP.elim
    | non => exact .inr (.inr (.inr (lists _ rfl rfl)))
    | bl b => exact .inr (.inr (.inr (lists _ rfl rfl)))
    | lst q k => exact .inr (.inr (.inr (lists _ rfl rfl)))
    | ref q => exact .inr (.inr (.inr (lists _ rfl rfl)))
    | scr q => exact .inr (.inr (.inr (lists _ rfl rfl)))
    | exn0 => exact .inr (.inr (.inr (lists _ rfl rfl)))
    | exn1 q => exact .inr (.inr (.inr (lists _ rfl rfl)))
  | _ => cases kx <;> exact hP.elim
def flatD : D → Bool
  | .non => true
  | .bl _ => true
  | .int _ => true
  | .str _ => true
  | _ => false
def eqFl : D → D → Bool
  | .non, .non => true
  | .bl a, .bl b => a == b
  | .bl a, .int b => (if a then 1 else 0) == b
  | .int a, .bl b => a == (if b then 1 else 0)
  | .int a, .int b => a == b
  | .str a, .str b => a == b
  | _, _ => false
theorem flatD_ok {F : Hp} {r : List Addr} {v : V} {d : D} (k : Rep F r v d) (h : flatD d = true) : flatV v = true := by cases k <;> first | rfl | cases h
theorem str_beq (a b : List Nat) : ((⟨a.toArray⟩ : Str) == ⟨b.toArray⟩) = (a == b) := by
  by_cases e : a = b
  · subst e; simp
  · rw [beq_eq_false_iff_ne.mpr e, beq_eq_false_iff_ne]
    intro q
    apply e
    have := congrArg (fun (x : Str) => x.cps.toList) q
    simpa using this
theorem eqFl_ok {F : Hp} {r : List Addr} {v w : V} {d e : D} (k : Rep F r v d) (l : Rep F r w e) (h : flatD d = true) (h' : flatD e = true) : eqV v w = eqFl d e := by
  cases k <;> first | (exact absurd h Bool.false_ne_true) | skip
  all_goals (cases l <;> first | rfl | exact str_beq _ _ | (exact absurd h' Bool.false_ne_true))
def seqOf (st : Store) : D → Option (List D)
  | .tup ds => some ds
  | d => lstOf st d
theorem inSeq_ok {F : Hp} {r : List Addr} {v : V} {d : D} (k : Rep F r v d) (h : flatD d = true) : ∀ {vs : List V} {ds : List D}, Reps F r vs ds → ds.all flatD = true → vs.all flatV = true ∧ inV v vs = ds.any fun e => eqFl e d
  | _, _, .nil, _ => ⟨rfl, rfl⟩
  | _, _, .cons k1 k2, e => by
    rw [List.all_cons, Bool.and_eq_true] at e
    obtain ⟨a, b⟩ := inSeq_ok k h k2 e.2
    refine ⟨by rw [List.all_cons, flatD_ok k1 e.1, a]; rfl, ?_⟩
    unfold inV at b ⊢
    rw [List.any_cons, List.any_cons, eqFl_ok k1 k e.1 h, b]
def inG (neg : Bool) : G2 := fun st d e => match d, e with
  | .str [c], .str b => .ok (.bl (if neg = true then !decide (c ∈ b) else decide (c ∈ b)), st)
  | .str _, .str _ => .bad
  | d, e => match seqOf st e with
    | some ds => if flatD d = true ∧ ds.all flatD = true then .ok (.bl (if neg = true then !(ds.any fun z => eqFl z d) else ds.any fun z => eqFl z d), st) else .bad
    | none => .bad
theorem inG_seq {neg : Bool} {st : Store} {d e : D} (h : ∀ s, e ≠ .str s) : inG neg st d e = match seqOf st e with
    | some ds => if flatD d = true ∧ ds.all flatD = true then .ok (.bl (if neg = true then !(ds.any fun z => eqFl z d) else ds.any fun z => eqFl z d), st) else .bad
    | none => .bad := by
  cases e <;> first | exact absurd rfl (h _) | (cases d <;> first | rfl | (rename_i s; cases s <;> first | rfl | (rename_i t; cases t <;> rfl)))
theorem in_seq_ok {neg : Bool} (hK : X.K = W.K) {Rs F H : Hp} {rr : List Addr} {st : Store} {x y : V} {dx dy : D} {Q : VK} (h : Holds W Rs F H rr st) (kx : Rep F rr x dx) (ky : Rep F rr y dy) (hP : Post W Rs F rr (match seqOf st dy with
    | some ds => if flatD dx = true ∧ ds.all flatD = true then .ok (.bl (if neg = true then !(ds.any fun z => eqFl z dx) else ds.any fun z => eqFl z dx), st) else .bad
    | none => (.bad : R (D × Store))) Q E) : rIn X.K neg x y H Q := by
  split at hP
  · rename_i ds e1
    split at hP
    · rename_i hc
      obtain ⟨p, vs, rfl, hs, k1⟩ : ∃ p vs, y = .ref p ∧ (SqL X.K H p vs ∨ SqT X.K H p vs) ∧ Reps F rr vs ds := by
        cases ky with
        | tup q k => cases e1; exact ⟨_, _, rfl, .inr (.of (h.sF _ _ q)), k⟩
        | lst q k => cases e1; exact ⟨_, _, rfl, .inl (.of (h.sF _ _ q)), k⟩
        | ref q =>
          obtain ⟨a, vs, e, q', k⟩ := lstOf_ok h (.ref q) e1
          exact ⟨a, vs, e, .inl (.of q'), k⟩
        | _ => cases e1
      obtain ⟨a1, a2⟩ := inSeq_ok kx hc.1 k1 hc.2
      refine ⟨p, vs, rfl, hs, flatD_ok kx hc.1, a1, ?_⟩
      rw [a2]
      exact onE_here h (.bl _) hP
    · exact hP.elim
  · exact hP.elim
theorem dop_notin (hK : X.K = W.K) : DOp W X (compareOp .NotIn) (inG true) := .of (op_notIn_sign.or op_notIn_seq) fun Rs F H rr st x y dx dy Q E h kx ky hP => by
  cases ky with
  | str b hb hbl =>
    cases kx with
    | str a ha hal =>
      cases a with
      | nil => exact hP.elim
      | cons c t =>
        cases t with
        | nil => exact .inl ⟨c, _, rfl, rfl, onE_here h (.bl _) hP⟩
        | cons _ _ => exact hP.elim
    | _ => exact hP.elim
  | _ => rw [inG_seq (by intro s z; cases z)] at hP; exact .inr (in_seq_ok hK h kx (by first | exact .non | exact .bl _ | exact .int _ | exact .tup ‹_› ‹_› | exact .lst ‹_› ‹_› | exact .ref ‹_› | exact .scr (by assumption) | exact .exn0 _ | exact .exn1 (by assumption)) hP)
end
end Dl
namespace Dl
open PySem L2
section
variable {W : Wd} {X : Cx} {E : XK} {Rs F F1 H : Hp} {r r1 : List Addr}
def sOf {A : Type} (res : R A) (k : A → SR) : SR := match res with
  | .ok a => k a
  | .exc c p st => .exc c p st
  | .bad => .bad
@[simp] theorem sOf_ok {A : Type} (a : A) (k : A → SR) : sOf (R.ok a) k = k a := rfl
@[simp] theorem sOf_exc {A : Type} (c : Nat) (p : Option D) (st : Store) (k : A → SR) : sOf (R.exc c p st : R A) k = .exc c p st := rfl
@[simp] theorem sOf_bad {A : Type} (k : A → SR) : sOf (R.bad : R A) k = .bad := rfl
theorem bindS {A : Type} {res : R A} {k : A → SR} {D : Ends} {K' : A → Prop} (h : PostS W Rs F r (sOf res k) D E) (q : ∀ a, res = .ok a → PostS W Rs F r (k a) D E → K' a) : PostX W Rs F r res K' E := by
  cases res with
  | ok a => exact q a rfl h
  | exc c p st' => exact h
  | bad => exact h
def sNext : SV := fun env st => .nx env st
def sCons (f g : SV) : SV := fun env st => match f env st with
  | .nx e s => g e s
  | .rt d s => .rt d s
  | .bk e s => .bk e s
  | .ct e s => .ct e s
  | .exc c p s => .exc c p s
  | .bad => .bad
def sExpr (f : EV) : SV := fun env st => sOf (f env st) fun a => .nx env a.2
def sRet (f : EV) : SV := fun env st => sOf (f env st) fun a => .rt a.1 a.2
def sIf (t : TV) (f g : SV) : SV := fun env st => sOf (t env st) fun a => if a.1 = true then f env a.2 else g env a.2
def sBad : SV := fun _ _ => .bad
theorem PostF.here {env : Env} {st : Store} {N : St → Hp → Prop} {sg : St} (h : Holds W Rs F H r st) (k : EnvOk F r sg env) (q : PostF W Rs F r env st N) : N sg H := q F H r sg (Same.refl _) (Ext.refl _) h k
variable {st : Stmt} {rest : List Stmt} {f g : SV} {e : Expr} {fe : EV} {pos : Pos}
theorem db_nil : DB W X E [] sNext := .mk pss_nil fun Rs F H r sg env st D hH hE hP => PostF.here hH hE hP
theorem db_one (h : DS W X E st f) : DB W X E [st] f := let ⟨t, p, q⟩ := h.ex; .mk (pss_one p) q
theorem db_cons (h1 : DS W X E st f) (h2 : DB W X E rest g) : DB W X E (st :: rest) (sCons f g) := by
  obtain ⟨t, p, q⟩ := h1.ex
  obtain ⟨t2, p2, q2⟩ := h2.ex
  refine .mk (pss_cons p p2) fun Rs F H r sg env st D hH hE hP => ?_
  refine q Rs F H r sg env st _ hH hE ?_
  unfold sCons at hP
  cases ef : f env st with
  | nx e1 s1 =>
    rw [ef] at hP
    exact fun F' H' r' sg' s x h k => q2 Rs F' H' r' sg' e1 s1 D h k (PostS.later s x hP)
  | rt d s1 => rw [ef] at hP; exact hP
  | bk e1 s1 => rw [ef] at hP; exact hP
  | ct e1 s1 => rw [ef] at hP; exact hP
  | exc c p s1 => rw [ef] at hP; exact hP
  | bad => rw [ef] at hP; exact hP
theorem ds_bad : DS W X E st sBad := .mk ps_never fun Rs F H r sg env st D hH hE hP => hP
theorem ds_expr (h : DE W X E e fe) (hs : swapsWith e none pos.line X.env = pure false := by rfl) : DS W X E (.Expr e pos) (sExpr fe) := by
  obtain ⟨t, p, q⟩ := h.ex
  refine .mk (ps_expr p hs) fun Rs F H r sg env st D hH hE hP => ?_
  exact q Rs F H r sg env st _ hH hE (bindS hP fun a ea k F1 H1 r1 v1 s1 x1 h1 k1 => k F1 H1 r1 sg s1 x1 h1 (hE.mono s1 x1))
theorem ds_ret (h : DE W X E e fe) : DS W X E (.Return (some e) pos) (sRet fe) := by
  obtain ⟨t, p, q⟩ := h.ex
  refine .mk (ps_ret p) fun Rs F H r sg env st D hH hE hP => ?_
  exact q Rs F H r sg env st _ hH hE (bindS hP fun a ea k F1 H1 r1 v1 s1 x1 h1 k1 => k F1 H1 r1 v1 s1 x1 h1 k1)
theorem ds_if {c : Expr} {a b : List Stmt} {tc : TV} (hc : DT W X E c tc) (ha : DB W X E a f) (hb : DB W X E b g) : DS W X E (.If c a b pos) (sIf tc f g) := by
  obtain ⟨t, p, q⟩ := hc.ex
  obtain ⟨t1, p1, q1⟩ := ha.ex
  obtain ⟨t2, p2, q2⟩ := hb.ex
  refine .mk (ps_if p p1 p2) fun Rs F H r sg env st D hH hE hP => ?_
  refine q Rs F H r sg env st _ hH hE (bindS hP fun a ea k F1 H1 r1 s1 x1 h1 => ?_)
  obtain ⟨c, st1⟩ := a
  cases c with
  | true => exact q1 Rs F1 H1 r1 sg env st1 D h1 (hE.mono s1 x1) (PostS.later s1 x1 k)
  | false => exact q2 Rs F1 H1 r1 sg env st1 D h1 (hE.mono s1 x1) (PostS.later s1 x1 k)
abbrev GV := D → Env → Store → R (Env × Store)
def DG (W : Wd) (X : Cx) (E : XK) (tg : Expr) (g : GV) : Prop := ∃ t, PG X tg t ∧ ∀ Rs F H r sg env st v d N, Holds W Rs F H r st → EnvOk F r sg env → Rep F r v d → PostX W Rs F r (g d env st) (fun a => PostF W Rs F r a.1 a.2 N) E → t v sg H N
abbrev GVs := List D → Env → Store → R (Env × Store)
def DGs (W : Wd) (X : Cx) (E : XK) (tg : List Expr) (g : GVs) : Prop := ∃ t, PGs X tg t ∧ ∀ Rs F H r sg env st vs ds N, Holds W Rs F H r st → EnvOk F r sg env → Reps F r vs ds → PostX W Rs F r (g ds env st) (fun a => PostF W Rs F r a.1 a.2 N) E → t vs sg H N
def gN (i : Nat) : GV := fun d env st => .ok (env.set i (some d), st)
theorem dg_name {i : Nat} {x : Str} {pos : Pos} (hN : X.N.Nodup) (hi : X.N[i]? = some x) (hx : Loc X.env.scope x) (hf : X.fn x = true ∨ X.env.scope.names.lookup x = some .local := by first | exact .inl rfl | exact .inr rfl | assumption) : DG W X E (.Name x pos) (gN i) :=
  ⟨_, pg_name hN hi hx hf, fun Rs F H r sg env st v d N hH hE k hP => PostF.here hH (hE.set k i) hP⟩
def gsNil : GVs := fun ds env st => match ds with
  | [] => .ok (env, st)
  | _ => .bad
def gsCons (g : GV) (h : GVs) : GVs := fun ds env st => match ds with
  | d :: ds => (g d env st).bind fun a => h ds a.1 a.2
  | [] => .bad
theorem dgs_nil : DGs W X E [] gsNil := ⟨_, pgs_nil, fun Rs F H r sg env st vs ds N hH hE k hP => by
  cases k with
  | nil => exact ⟨rfl, PostF.here hH hE hP⟩
  | cons _ _ => exact hP.elim⟩
theorem dgs_cons {tg : Expr} {tgs : List Expr} {g : GV} {h : GVs} (h1 : DG W X E tg g) (h2 : DGs W X E tgs h)
    (hs : (assignEach (tg :: tgs) X.env).map (·.2) = assign tg X.env :: (assignEach tgs X.env).map (·.2) := by rfl) : DGs W X E (tg :: tgs) (gsCons g h) := by
  obtain ⟨t, p, q⟩ := h1
  obtain ⟨t2, p2, q2⟩ := h2
  refine ⟨_, pgs_cons p p2 hs, fun Rs F H r sg env st vs ds N hH hE k hP => ?_⟩
  cases k with
  | nil => exact hP.elim
  | @cons v vs d ds k1 k2 =>
    refine ⟨v, vs, rfl, q Rs F H r sg env st v d _ hH hE k1 (bindX hP fun a ea z F1 H1 r1 sg1 s1 x1 h1 e1 => ?_)⟩
    exact q2 Rs F1 H1 r1 sg1 a.1 a.2 vs ds N h1 e1 (k2.mono s1 x1) (PostX.imp s1 x1 z fun _ y => PostF.later s1 x1 y)
/-- (a, b, ..) = a tuple -/
def gTp (n : Nat) (h : GVs) : GV := fun d env st => match d with
  | .tup ds => if ds.length = n then h ds env st else .bad
  | _ => .bad
theorem dg_tup {es : List Expr} {k n : Nat} {h : GVs} {pos : Pos} (hc : X.calm = true) (hh : DGs W X E es h)
    (hn : (assignEach es X.env).length = n := by rfl) (hst : (assignEach es X.env).findIdx? (·.1) = none := by rfl) : DG W X E (.Tuple es k pos) (gTp n h) := by
  obtain ⟨t, p, q⟩ := hh
  refine ⟨_, pg_tup hc p hn hst, fun Rs F H r sg env st v d N hH hE k hP => ?_⟩
  cases d with
  | tup ds =>
    unfold gTp at hP
    simp only at hP
    split at hP
    · rename_i hl
      cases k with
      | @tup a vs _ e k1 => exact ⟨a, vs, rfl, .of (hH.sF _ _ e), by rw [k1.length, hl], q Rs F H r sg env st vs ds N hH hE k1 hP⟩
    · exact hP.elim
  | _ => exact hP.elim
/-- o[i] = e, by values -/
abbrev SetV := Store → D → D → D → Option Store
def DSet (W : Wd) (X : Cx) (g : SetV) : Prop := ∃ t, PSet X t ∧ ∀ Rs F H r st o i v dO di dv N, Holds W Rs F H r st → Rep F r o dO → Rep F r i di → Rep F r v dv →
  ∀ st', g st dO di dv = some st' → (∀ H', Holds W Rs F H' r st' → N H') → t o i v H N
def gSb (fo fi : EV) (g : SetV) : GV := fun d env st => (fo env st).bind fun a => (fi env a.2).bind fun b => match g b.2 a.1 b.1 d with
  | some st' => .ok (env, st')
  | none => .bad
theorem dg_sub {o i : Expr} {fo fi : EV} {g : SetV} {pos : Pos} (ho : DE W X E o fo) (hi : DE W X E i fi) (hs : DSet W X g)
    (ha : ∀ v, assign (.Subscript o i pos) X.env v = (do
      let ov ← holding [v] (eval o X.env)
      let iv ← holding [v, ov] (eval i X.env)
      standAt pos
      holding [v, ov, iv] (setItem ov iv v)
      release [v, ov, iv] []) := by intro _; rfl) : DG W X E (.Subscript o i pos) (gSb fo fi g) := by
  obtain ⟨to, po, qo⟩ := ho.ex
  obtain ⟨ti, pi, qi⟩ := hi.ex
  obtain ⟨ts, ps, qs⟩ := hs
  refine ⟨_, pg_sub po pi ps ha, fun Rs F H r sg env st v d N hH hE k hP => ?_⟩
  refine qo Rs F H r sg env st _ hH hE (bindX hP fun a ea z F1 H1 r1 v1 s1 x1 h1 k1 => ?_)
  refine qi Rs F1 H1 r1 sg env a.2 _ h1 (hE.mono s1 x1) (bindX (PostX.imp s1 x1 z fun _ y => PostF.later s1 x1 y) fun b eb z2 F2 H2 r2 v2 s2 x2 h2 k2 => ?_)
  cases e : g b.2 a.1 b.1 d with
  | none => rw [e] at z2; exact z2.elim
  | some st' =>
    rw [e] at z2
    exact qs Rs F2 H2 r2 b.2 v1 v2 v a.1 b.1 d _ h2 (k1.mono s2 x2) k2 (k.mono (s1.trans s2) (x1.trans x2)) st' e fun H' h' => z2 F2 H' r2 sg s2 x2 h' (hE.mono (s1.trans s2) (x1.trans x2))
def setLG : SetV := fun st o i v => match o, i with
  | .ref n, .int k => match st[n]? with
    | some (.lst ds) => match ixN ds.length k with
      | some j => some (st.set n (.lst (ds.set j v)))
      | none => none
    | _ => none
  | _, _ => none
theorem dset_list : DSet W X setLG := ⟨_, set_list, fun Rs F H r st o i v dO di dv N hH ko ki kv st' e hN => by
  cases ko with
  | @ref a n q =>
    cases ki with
    | int k =>
      unfold setLG at e
      simp only at e
      split at e
      · rename_i ds e1
        split at e
        · rename_i j e2
          cases e
          obtain ⟨vs, h1, k1⟩ := hH.ob n a _ q e1
          refine ⟨a, vs, k, j, rfl, rfl, h1, by rw [k1.length]; exact e2, hN _ (hH.write q ⟨_, upd_same, Reps.set kv j k1⟩)⟩
        · cases e
      · cases e
    | _ => cases e
  | _ => cases e⟩
def sAsg (f : EV) (g : GV) : SV := fun env st => sOf (f env st) fun a => sOf (g a.1 env a.2) fun b => .nx b.1 b.2
theorem sAsg_post {te : TE} {tg : TG} {f : EV} {g : GV} (q : ∀ Rs F H r sg env st Q, Holds W Rs F H r st → EnvOk F r sg env → Post W Rs F r (f env st) Q E → te sg H Q)
    (qg : ∀ Rs F H r sg env st v d N, Holds W Rs F H r st → EnvOk F r sg env → Rep F r v d → PostX W Rs F r (g d env st) (fun a => PostF W Rs F r a.1 a.2 N) E → tg v sg H N)
    {Rs F H r sg env st D} (hH : Holds W Rs F H r st) (hE : EnvOk F r sg env) (hP : PostS W Rs F r (sAsg f g env st) D E) : tAsg te tg D sg H := by
  refine q Rs F H r sg env st _ hH hE (bindS hP fun a ea z F1 H1 r1 v1 s1 x1 h1 k1 => ?_)
  refine qg Rs F1 H1 r1 sg env a.2 v1 a.1 D.nx h1 (hE.mono s1 x1) k1 (bindS (D := D) (PostS.later s1 x1 z) fun b eb z2 => z2)
theorem ds_asg {tg e : Expr} {f : EV} {g : GV} (he : DE W X E e f) (hg : DG W X E tg g) (hs : swapsWithSole [tg] e pos.line X.env = pure false := by rfl) (hw : swappedStores [tg] e X.env = pure none := by rfl)
    (h1 : (assignEach [tg] X.env).map (·.2) = [assign tg X.env] := by rfl) : DS W X E (.Assign [tg] e pos) (sAsg f g) := by
  obtain ⟨t, p, q⟩ := he.ex
  obtain ⟨tg, pg, qg⟩ := hg
  exact .mk (ps_asg p pg hs hw h1) fun Rs F H r sg env st D hH hE hP => sAsg_post q qg hH hE hP
theorem gN_ok {i : Nat} : ∀ Rs F H r sg env st v d N, Holds W Rs F H r st → EnvOk F r sg env → Rep F r v d → PostX W Rs F r (gN i d env st) (fun a => PostF W Rs F r a.1 a.2 N) E → gName i v sg H N :=
  fun Rs F H r sg env st v d N hH hE k hP => PostF.here hH (hE.set k i) hP
theorem ds_set {i : Nat} {x : Str} {e : Expr} {f : EV} {pos' : Pos} (hN : X.N.Nodup) (hi : X.N[i]? = some x) (hx : Loc X.env.scope x) (he : DE W X E e f) (hs : swapsWith e (some (.Name x pos')) pos.line X.env = pure false := by rfl) (hf : X.fn x = true ∨ X.env.scope.names.lookup x = some .local := by first | exact .inl rfl | exact .inr rfl | assumption) :
    DS W X E (.Assign [.Name x pos'] e pos) (sAsg f (gN i)) := by
  obtain ⟨t, p, q⟩ := he.ex
  exact .mk (ps_set hN hi hx p hs hf) fun Rs F H r sg env st D hH hE hP => sAsg_post q gN_ok hH hE hP
/-- a, b = x, y by swapped stores -/
def sPar (i j : Nat) (f : AV) : SV := fun env st => sOf (f env st) fun a => match a.1 with
  | [d, e] => .nx ((env.set i (some d)).set j (some e)) a.2
  | _ => .bad
theorem ds_par {i j : Nat} {x y : Str} {a b : Expr} {fa : AV} {px py pt : Pos} {kt k2 pt2} (hc : X.calm = true) (hN : X.N.Nodup) (hi : X.N[i]? = some x) (hj : X.N[j]? = some y) (hij : i ≠ j)
    (hx : X.env.scope.names.lookup x = some .local) (hy : X.env.scope.names.lookup y = some .local) (ha : DA W X E [a, b] fa)
    (hw : swappedStores [.Tuple [.Name x px, .Name y py] kt pt] (.Tuple [a, b] k2 pt2) X.env = pure (some [x, y]))
    (hs : swapsWithSole [.Tuple [.Name x px, .Name y py] kt pt] (.Tuple [a, b] k2 pt2) pos.line X.env = pure false := by rfl) :
    DS W X E (.Assign [.Tuple [.Name x px, .Name y py] kt pt] (.Tuple [a, b] k2 pt2) pos) (sPar i j fa) := by
  obtain ⟨t, p, q⟩ := ha.ex
  refine .mk (ps_par hc hN hi hj hij hx hy p hw hs) fun Rs F H r sg env st D hH hE hP => ?_
  refine q Rs F H r sg env st _ hH hE (bindS hP fun a ea z F1 H1 r1 vs s1 x1 h1 k1 => ?_)
  obtain ⟨ds, st1⟩ := a
  cases k1 with
  | nil => exact z.elim
  | cons k1 k2 =>
    cases k2 with
    | nil => exact z.elim
    | cons k2 k3 =>
      cases k3 with
      | nil => exact ⟨_, _, rfl, z F1 H1 r1 _ s1 x1 h1 (((hE.mono s1 x1).set k1 i).set k2 j)⟩
      | cons _ _ => exact z.elim
def sPar3 (i j l : Nat) (f : AV) : SV := fun env st => sOf (f env st) fun a => match a.1 with
  | [d, e, c] => .nx (((env.set i (some d)).set j (some e)).set l (some c)) a.2
  | _ => .bad
def still (sub : List (Nat × List D)) (st : Store) : Bool := sub.all fun p => match st[p.1]? with
  | some (.lst ds) => D.beqs ds p.2
  | _ => false
theorem still_at {sub : List (Nat × List D)} {st : Store} (h : still sub st = true) {n : Nat} {ds : List D} (m : (n, ds) ∈ sub) : st[n]? = some (.lst ds) := by
  unfold still at h
  have q := List.all_eq_true.mp h (n, ds) m
  simp only at q
  split at q
  · rename_i es e
    rw [e, D.eqs_of_beqs _ _ q]
  · cases q
@[simp] theorem still_nil (st : Store) : still [] st = true := rfl
theorem still_one {n : Nat} {ds : List D} {st : Store} (h : st[n]? = some (.lst ds)) : still [(n, ds)] st = true := by
  unfold still
  simp [h, D.beqs_refl]
abbrev Wk := List D × List (Nat × List D)
abbrev IV := Env → Store → R (Wk × Store)
def Drv (W : Wd) (F0 : Hp) (r0 : List Addr) (J : It) (w : Wk) : Prop := ∀ (i : Nat) Rs F H r st, Same F0 F → Ext r0 r → Holds W Rs F H r st → still w.2 st = true →
  (∀ d, w.1[i]? = some d → J.go i H ∧ ∀ x H', J.yld i H x H' → ∃ F', Same F F' ∧ Holds W Rs F' H' r st ∧ Rep F' r x d) ∧ (w.1.length ≤ i → J.stop i H)
def DI (W : Wd) (X : Cx) (E : XK) (tg iter : Expr) (f : IV) : Prop := ∃ wi, PI X tg iter wi ∧ ∀ Rs F H r sg env st (Q : It → Hp → Prop), Holds W Rs F H r st → EnvOk F r sg env →
  PostX W Rs F r (f env st) (fun a => ∀ J F' H' r', Same F F' → Ext r r' → Holds W Rs F' H' r' a.2 → Drv W F' r' J a.1 → Q J H') E → wi sg H Q
def forGo (sub : List (Nat × List D)) (g : GV) (b : SV) : List D → Env → Store → SR
  | [], env, st => if still sub st = true then .nx env st else .bad
  | d :: ds, env, st => if still sub st = true then sOf (g d env st) fun a => (match b a.1 a.2 with
      | .nx e s => forGo sub g b ds e s
      | .ct e s => forGo sub g b ds e s
      | .bk e s => .nx e s
      | .rt d s => .rt d s
      | .exc c p s => .exc c p s
      | .bad => .bad) else .bad
def sFor (it : IV) (g : GV) (b : SV) : SV := fun env st => sOf (it env st) fun a => forGo a.1.2 g b a.1.1 env a.2
theorem ds_for {tg iter : Expr} {body : List Stmt} {it : IV} {g : GV} {tb : SV} (hp : PassesOwn (model X.prog X.w) X.A X.env X.xe) (hc : X.calm = true) (hi : DI W X E tg iter it) (hg : DG W X E tg g) (hb : DB W X E body tb)
    (hs : ∀ x, foldedSetIterable iter X.env x = pure x := by intro _; rfl) : DS W X E (.For tg iter body [] pos) (sFor it g tb) := by
  obtain ⟨wi, p, q⟩ := hi
  obtain ⟨t, pg, qg⟩ := hg
  obtain ⟨t1, p1, q1⟩ := hb.ex
  refine .mk (ps_for hp hc p pg p1 hs) fun Rs F H r sg env st D hH hE hP => ?_
  refine q Rs F H r sg env st _ hH hE (bindS hP fun a ea z J F0 H0 r0 s0 x0 h0 drv => ?_)
  obtain ⟨⟨items, sub⟩, st0⟩ := a
  refine ⟨fun i m sg' H' => m = items.length - i ∧ i ≤ items.length ∧ ∃ F' r' env' st', Same F0 F' ∧ Ext r0 r' ∧ Holds W Rs F' H' r' st' ∧ EnvOk F' r' sg' env' ∧ PostS W Rs F' r' (forGo sub g tb (items.drop i) env' st') D E,
    ⟨items.length, by simp, Nat.zero_le _, F0, r0, env, st0, Same.refl _, Ext.refl _, h0, hE.mono s0 x0, PostS.later s0 x0 z⟩, ?_⟩
  rintro i m sg H ⟨rfl, hi, F, r, env, st, s, x, hH, hE, hP⟩
  by_cases hl : i < items.length
  · rw [List.drop_eq_getElem_cons hl] at hP
    unfold forGo at hP
    by_cases hst : still sub st = true
    · rw [if_pos hst] at hP
      obtain ⟨d1, _⟩ := drv i Rs F H r st s x hH hst
      obtain ⟨go, yld⟩ := d1 items[i] (by simp [hl])
      refine .inr ⟨go, fun sg' H' => i + 1 ≤ items.length ∧ ∃ F' r' env' st', Same F0 F' ∧ Ext r0 r' ∧ Holds W Rs F' H' r' st' ∧ EnvOk F' r' sg' env' ∧ PostS W Rs F' r' (forGo sub g tb (items.drop (i + 1)) env' st') D E,
        fun sg' H' z => ⟨items.length - (i + 1), by omega, rfl, z⟩, fun v H1 y => ?_⟩
      obtain ⟨F1, s1, h1, k1⟩ := yld v H1 y
      have hP1 := PostS.later s1 (Ext.refl r) hP
      refine qg Rs F1 H1 r sg env st v items[i] _ h1 (hE.mono s1 (Ext.refl _)) k1 (bindS hP1 fun b eb z2 F2 H2 r2 sg2 s2 x2 h2 k2 => ?_)
      refine q1 Rs F2 H2 r2 sg2 b.1 b.2 _ h2 k2 ?_
      replace z2 := PostS.later s2 x2 z2
      cases ebb : tb b.1 b.2 with
      | nx e s' => rw [ebb] at z2; exact fun F3 H3 r3 sg3 s3 x3 h3 k3 => ⟨hl, F3, r3, e, s', ((s.trans s1).trans s2).trans s3, (x.trans x2).trans x3, h3, k3, PostS.later s3 x3 z2⟩
      | ct e s' => rw [ebb] at z2; exact fun F3 H3 r3 sg3 s3 x3 h3 k3 => ⟨hl, F3, r3, e, s', ((s.trans s1).trans s2).trans s3, (x.trans x2).trans x3, h3, k3, PostS.later s3 x3 z2⟩
      | bk e s' => rw [ebb] at z2; exact z2
      | rt d s' => rw [ebb] at z2; exact z2
      | exc c p s' => rw [ebb] at z2; exact z2
      | bad => rw [ebb] at z2; exact z2
    · rw [if_neg hst] at hP; exact hP.elim
  · have e : items.drop i = [] := List.drop_eq_nil_of_le (by omega)
    rw [e] at hP
    unfold forGo at hP
    by_cases hst : still sub st = true
    · rw [if_pos hst] at hP
      obtain ⟨_, d2⟩ := drv i Rs F H r st s x hH hst
      exact .inl ⟨d2 (by simpa using hl), PostF.here hH hE hP⟩
    · rw [if_neg hst] at hP; exact hP.elim
theorem drv_list {K : PySem.W.Frag} {F0 : Hp} {r0 : List Addr} {a : Addr} {w : Wk} (h : ∀ Rs F H r st, Same F0 F → Ext r0 r → Holds W Rs F H r st → still w.2 st = true → ∃ vs, SqL K H a vs ∧ Reps F r vs w.1) : Drv W F0 r0 (Itl K a) w := fun i Rs F H r st s x hH hst => by
  obtain ⟨vs, h1, k1⟩ := h Rs F H r st s x hH hst
  refine ⟨fun d e => ?_, fun hl => ⟨vs, h1, by rw [k1.length]; exact hl⟩⟩
  obtain ⟨v, e1, k⟩ := k1.get e
  refine ⟨⟨vs, v, h1, e1⟩, fun y H' yl => ?_⟩
  obtain ⟨e2, yl⟩ := yl
  subst e2
  have := yl vs h1
  rw [e1] at this; cases this
  exact ⟨F, Same.refl _, hH, k⟩
theorem drv_tup {K : PySem.W.Frag} {F0 : Hp} {r0 : List Addr} {a : Addr} {w : Wk} {vs : List V} (h : F0 a = some (.tup vs)) (k1 : Reps F0 r0 vs w.1) : Drv W F0 r0 (Itt K a) w := fun i Rs F H r st s x hH hst => by
  have h1 : SqT K H a vs := .of (hH.sF _ _ (s _ _ h))
  replace k1 := k1.mono s x
  refine ⟨fun d e => ?_, fun hl => ⟨vs, h1, by rw [k1.length]; exact hl⟩⟩
  obtain ⟨v, e1, k⟩ := k1.get e
  refine ⟨⟨vs, v, h1, e1⟩, fun y H' yl => ?_⟩
  obtain ⟨e2, yl⟩ := yl
  subst e2
  have := yl vs h1
  rw [e1] at this; cases this
  exact ⟨F, Same.refl _, hH, k⟩
theorem drv_str {F0 : Hp} {r0 : List Addr} {s : List Nat} {w : Wk} (hw : w.1 = s.map fun c => D.str [c]) (ha : s.all (fun c => decide (c < 128)) = true) : Drv W F0 r0 (Its ⟨s.toArray⟩) w := fun i Rs F H r st ss x hH hst => by
  refine ⟨fun d e => ?_, fun hl => by show s.toArray.size ≤ i; rw [hw, List.length_map] at hl; simpa using hl⟩
  rw [hw, List.getElem?_map] at e
  cases q : s[i]? with
  | none => rw [q] at e; cases e
  | some c =>
    rw [q] at e; cases e
    refine ⟨by show i < s.toArray.size; simpa using (List.getElem?_eq_some_iff.mp q).1, fun y H' yl => ?_⟩
    obtain ⟨e2, c', e3, e4⟩ := yl
    have e3' : s[i]? = some c' := by simpa using e3
    rw [q] at e3'; cases e3'
    subst e2 e4
    have hc := List.all_eq_true.mp ha c (List.mem_of_getElem? q)
    exact ⟨F, Same.refl _, hH, .str [c] (by simpa using hc) (by simp [LIM])⟩
def itemsOf (st : Store) : D → Option Wk
  | .lst ds => some (ds, [])
  | .tup ds => some (ds, [])
  | .str s => some (s.map fun c => D.str [c], [])
  | .scr ns => some (ns.map D.int, [])
  | .ref n => match st[n]? with
    | some (.lst ds) => some (ds, [(n, ds)])
    | _ => none
  | _ => none
def iSeq (f : EV) : IV := fun env st => (f env st).bind fun a => match itemsOf a.2 a.1 with
  | some w => .ok (w, a.2)
  | none => .bad
theorem reps_ints {F : Hp} {r : List Addr} : ∀ ns : List Int, Reps F r (ns.map V.int) (ns.map D.int)
  | [] => .nil
  | n :: ns => .cons (.int n) (reps_ints ns)
theorem pi_or {tg iter : Expr} {wi wi' : TI} (h : PI X tg iter wi) (h' : PI X tg iter wi') : PI X tg iter (fun sg H Q => wi sg H Q ∨ wi' sg H Q) :=
  ⟨fun pins s sg H Q I q => q.elim (h.run pins s sg H Q I) (h'.run pins s sg H Q I)⟩
theorem di_seq {tg e : Expr} {f : EV} (he : DE W X E e f) : DI W X E tg e (iSeq f) := by
  obtain ⟨t, p, q⟩ := he.ex
  refine ⟨_, pi_or (pi_list p) (pi_or (pi_tup p) (pi_str p)), fun Rs F H r sg env st Q hH hE hP => ?_⟩
  -- which one it is, by what the data are
  have lists : (∀ a, f env st = .ok a → ∀ w, itemsOf a.2 a.1 = some w → (∀ ds, a.1 ≠ .tup ds) ∧ (∀ s, a.1 ≠ .str s)) → iList X.K t sg H Q := fun hk => by
    refine q Rs F H r sg env st _ hH hE (bindX hP fun a ea z F1 H1 r1 v1 s1 x1 h1 k1 => ?_)
    cases ew : itemsOf a.2 a.1 with
    | none => rw [ew] at z; exact z.elim
    | some w =>
      rw [ew] at z
      obtain ⟨n1, n2⟩ := hk a ea w ew
      obtain ⟨d, st1⟩ := a
      have fin : ∀ p vs, v1 = .ref p → SqL X.K H1 p vs → Drv W F1 r1 (Itl X.K p) w → ∃ a, v1 = .ref a ∧ (∃ xs, SqL X.K H1 a xs) ∧ Q (Itl X.K a) H1 := fun p vs e h dr => ⟨p, e, ⟨vs, h⟩, z _ F1 H1 r1 s1 x1 h1 dr⟩
      cases k1 with
      | tup _ _ => exact absurd rfl (n1 _)
      | str _ _ _ => exact absurd rfl (n2 _)
      | lst e k => cases ew; exact fin _ _ rfl (.of (h1.sF _ _ e)) (drv_list fun Rs F H r st s x hH _ => ⟨_, .of (hH.sF _ _ (s _ _ e)), k.mono s x⟩)
      | @scr a ns e => cases ew; exact fin _ _ rfl (e.sq h1.sF) (drv_list fun Rs F H r st s x hH _ => ⟨_, e.sq (fun _ _ z => hH.sF _ _ (s _ _ z)), reps_ints ns⟩)
      | @ref a n e =>
        unfold itemsOf at ew
        simp only at ew
        split at ew
        · rename_i ds e1
          cases ew
          obtain ⟨vs, q1, k⟩ := h1.ob n a _ e e1
          refine fin a vs rfl (.of q1) (drv_list fun Rs F H r st s x hH hst => ?_)
          obtain ⟨vs', q1', k'⟩ := hH.ob n a _ (x _ _ e) (still_at (ds := ds) hst (List.mem_cons_self))
          exact ⟨vs', .of q1', k'⟩
        · cases ew
      | _ => cases ew
  cases ef : f env st with
  | bad => unfold iSeq at hP; rw [ef] at hP; exact hP.elim
  | exc c p' s' => exact .inl (lists fun a ea => by rw [ef] at ea; cases ea)
  | ok a =>
    obtain ⟨d, st1⟩ := a
    cases d with
    | tup ds =>
      refine .inr (.inl (q Rs F H r sg env st _ hH hE (bindX hP fun a ea z F1 H1 r1 v1 s1 x1 h1 k1 => ?_)))
      rw [ef] at ea; cases ea
      cases k1 with
      | tup e k => exact ⟨_, rfl, ⟨_, .of (h1.sF _ _ e)⟩, z _ F1 H1 r1 s1 x1 h1 (drv_tup e k)⟩
    | str s =>
      refine .inr (.inr (q Rs F H r sg env st _ hH hE (bindX hP fun a ea z F1 H1 r1 v1 s1 x1 h1 k1 => ?_)))
      rw [ef] at ea; cases ea
      cases k1 with
      | str s ha hl => exact ⟨_, rfl, z _ F1 H1 r1 s1 x1 h1 (drv_str rfl ha)⟩
    | _ => exact .inl (lists fun a ea w ew => by rw [ef] at ea; cases ea; exact ⟨(fun _ z => nomatch z), (fun _ z => nomatch z)⟩)
end
end Dl
namespace Dl
open PySem L2
section
variable {W : Wd} {Rs F H : Hp} {r : List Addr} {st : Store} {p : Addr} {o o' : HO}
theorem Holds.guard (h : Holds W Rs F H r st) (e : H p = none) (hn : ∀ ps, o ≠ .tbl ps := by intro _ z; cases z) : Holds W (upd Rs p o) F (upd H p o) r st := by
  refine ⟨fun c u q => ?_, fun c u q => ?_, fun c q => ?_, h.len, h.nd, fun c m => ⟨(h.own c m).1, ?_⟩, fun i a b e1 e2 => ?_, ⟨fun t ht => ?_, h.tb.nF, fun b ps => ?_⟩, h.kn.mono (fun c u q => by rw [upd_ne (ne_of_none q (h.freeR e))]; exact q) (Same.refl _) (Ext.refl _)⟩
  · rw [upd_ne (ne_of_none q (h.freeF e))]; exact h.sF _ _ q
  · by_cases hc : c = p
    · subst hc; rw [upd_same] at q ⊢; exact q
    · rw [upd_ne hc] at q ⊢; exact h.sR _ _ q
  · by_cases hc : c = p
    · subst hc; exact absurd (h.freeF e) q
    · rw [upd_ne hc]; exact h.dj c q
  · have hc : c ≠ p := fun z => h.notin e (z ▸ m)
    rw [upd_ne hc]; exact (h.own c m).2
  · have hc : a ≠ p := fun z => h.notin e (z ▸ List.mem_of_getElem? e1)
    exact (h.ob i a b e1 e2).mono (Same.refl _) (Ext.refl _) (upd_ne hc) (h.upN e)
  · obtain ⟨t1, t2, t3, t4⟩ := h.tb.at_ t ht
    exact ⟨t1.ext fun b u q => by rw [upd_ne (ne_of_none q e)]; exact q, t2, by rw [upd_ne (fun (z : t.1 = p) => tabs_here t1 (by rw [z]; exact e))]; exact t3, t4⟩
  · by_cases hb : b = p
    · rw [hb, upd_same]; exact fun z => hn ps (Option.some.inj z)
    · rw [upd_ne hb]; exact h.tb.nR b ps
theorem Holds.at_guard (h : Holds W (upd Rs p o) F H r st) : H p = some o ∧ F p = none ∧ p ∉ r := by
  refine ⟨h.sR _ _ upd_same, ?_, fun m => ?_⟩
  · cases q : F p with
    | none => rfl
    | some u =>
      have := h.dj p (by rw [q]; simp)
      rw [upd_same] at this; cases this
  · have := (h.own p m).2
    rw [upd_same] at this; cases this
theorem Holds.reguard (h : Holds W (upd Rs p o) F H r st) (hn : ∀ ps, o' ≠ .tbl ps := by intro _ z; cases z) (hx : ∀ φ, o ≠ .ext φ := by intro _ z; cases z) (hy : ∀ ob, o ≠ .frz ob anyO := by intro _ z; cases z) : Holds W (upd Rs p o') F (upd H p o') r st := by
  obtain ⟨e0, e1, e2⟩ := h.at_guard
  refine ⟨fun c u q => ?_, fun c u q => ?_, fun c q => ?_, h.len, h.nd, fun c m => ⟨(h.own c m).1, ?_⟩, fun i a b e1' e2' => ?_, ⟨fun t ht => ?_, h.tb.nF, fun b ps => ?_⟩, h.kn.keep (fun c u q => by
    have hc : c ≠ p := fun z => by rw [z, upd_same] at q; exact hy u (Option.some.inj q)
    rw [upd_ne hc] at q ⊢; exact q) (Same.refl _) (Ext.refl _)⟩
  · rw [upd_ne (fun z => by rw [z, e1] at q; cases q)]; exact h.sF _ _ q
  · by_cases hc : c = p
    · subst hc; rw [upd_same] at q ⊢; exact q
    · rw [upd_ne hc] at q ⊢
      exact h.sR c u (by rw [upd_ne hc]; exact q)
  · by_cases hc : c = p
    · subst hc; exact absurd e1 q
    · have := h.dj c q
      rw [upd_ne hc] at this ⊢; exact this
  · have hc : c ≠ p := fun z => e2 (z ▸ m)
    have := (h.own c m).2
    rw [upd_ne hc] at this ⊢; exact this
  · have hc : a ≠ p := fun z => e2 (z ▸ List.mem_of_getElem? e1')
    exact (h.ob i a b e1' e2').mono (Same.refl _) (Ext.refl _) (upd_ne hc) (.of fun t ht ps q => by
      rw [upd_ne fun z => ?_]
      · exact q
      · have := (h.tb.at_ t ht).2.2.1
        rw [z, upd_same] at this; cases this)
  · obtain ⟨t1, t2, t3, t4⟩ := h.tb.at_ t ht
    have hp : t.1 ≠ p := fun z => by rw [z, upd_same] at t3; cases t3
    refine ⟨tabs_keep t1 fun a v q z => ?_, t2, by rw [upd_ne hp] at t3 ⊢; exact t3, t4⟩
    rw [upd_ne fun w => ?_]
    · exact q
    · rw [w, e0] at q
      cases q
      rcases z with ⟨ps, z⟩ | ⟨φ, z⟩
      · exact h.tb.nR p ps (by rw [upd_same, z])
      · exact hx φ z
  · by_cases hb : b = p
    · rw [hb, upd_same]; exact fun z => hn ps (Option.some.inj z)
    · have := h.tb.nR b ps
      rw [upd_ne hb] at this ⊢; exact this
theorem Holds.thaw (h : Holds W (upd Rs p o) F H r st) (e : Rs p = none) (hy : ∀ ob, o ≠ .frz ob anyO := by intro _ z; cases z) : Same F (upd F p o) ∧ Holds W Rs (upd F p o) H r st := by
  obtain ⟨e0, e1, e2⟩ := h.at_guard
  have sF : Same F (upd F p o) := fun b u q => by rw [upd_ne (ne_of_none q e1)]; exact q
  refine ⟨sF, ⟨fun c u q => ?_, fun c u q => ?_, fun c q => ?_, h.len, h.nd, fun c m => ?_, fun i a b e1' e2' => ?_, ⟨fun t ht => ?_, fun b ps => ?_, fun b ps z => ?_⟩, h.kn.keep (fun c u q => by
    have hc : c ≠ p := fun z => by rw [z, upd_same] at q; exact hy u (Option.some.inj q)
    rw [upd_ne hc] at q; exact q) sF (Ext.refl _)⟩⟩
  · by_cases hc : c = p
    · subst hc; rw [upd_same] at q; cases q; exact e0
    · rw [upd_ne hc] at q; exact h.sF _ _ q
  · have hc : c ≠ p := ne_of_none q e
    exact h.sR c u (by rw [upd_ne hc]; exact q)
  · by_cases hc : c = p
    · rw [hc]; exact e
    · rw [upd_ne hc] at q
      have := h.dj c q
      rw [upd_ne hc] at this; exact this
  · have hc : c ≠ p := fun z => e2 (z ▸ m)
    have := h.own c m
    rw [upd_ne hc] at this ⊢; exact this
  · exact (h.ob i a b e1' e2').mono sF (Ext.refl _) rfl (.refl _ _)
  · obtain ⟨t1, t2, t3, t4⟩ := h.tb.at_ t ht
    have hp : t.1 ≠ p := fun z => by rw [z, upd_same] at t3; cases t3
    exact ⟨t1, by rw [upd_ne hp]; exact t2, by rw [upd_ne hp] at t3; exact t3, t4⟩
  · by_cases hb : b = p
    · rw [hb, upd_same]
      intro z
      exact h.tb.nR p ps (by rw [upd_same]; exact z)
    · rw [upd_ne hb]; exact h.tb.nF b ps
  · by_cases hb : b = p
    · rw [hb, e] at z; cases z
    · exact h.tb.nR b ps (by rw [upd_ne hb]; exact z)
theorem Holds.adopt {b : Ob} (h : Holds W (upd Rs p o) F H r st) (e : Rs p = none) (k : ObOk W F (r ++ [p]) H p b) (hy : ∀ ob, o ≠ .frz ob anyO := by intro _ z; cases z) : Holds W Rs F H (r ++ [p]) (st ++ [b]) := by
  obtain ⟨e0, e1, e2⟩ := h.at_guard
  refine ⟨h.sF, fun c u q => ?_, fun c q => ?_, by simp [h.len], ?_, fun c m => ?_, fun i a o' e1' e2' => ?_, ⟨fun t ht => ?_, h.tb.nF, fun b ps z => ?_⟩, h.kn.keep (fun c u q => by
    have hc : c ≠ p := fun z => by rw [z, upd_same] at q; exact hy u (Option.some.inj q)
    rw [upd_ne hc] at q; exact q) (Same.refl _) (Ext.snoc _ _)⟩
  · have hc : c ≠ p := ne_of_none q e
    exact h.sR c u (by rw [upd_ne hc]; exact q)
  · by_cases hc : c = p
    · rw [hc]; exact e
    · have := h.dj c q
      rw [upd_ne hc] at this; exact this
  · rw [List.nodup_append]
    refine ⟨h.nd, by simp, fun a ha b hb => ?_⟩
    have : b = p := by simpa using hb
    subst this
    exact fun z => e2 (z ▸ ha)
  · rcases List.mem_append.mp m with m | m
    · have hc : c ≠ p := fun z => e2 (z ▸ m)
      have := h.own c m
      rw [upd_ne hc] at this; exact this
    · have : c = p := by simpa using m
      subst this
      exact ⟨e1, e⟩
  · by_cases hi : i < r.length
    · rw [List.getElem?_append_left hi] at e1'
      rw [List.getElem?_append_left (by rw [← h.len]; exact hi)] at e2'
      exact (h.ob i a o' e1' e2').mono (Same.refl _) (Ext.snoc _ _) rfl (.refl _ _)
    · have hl : i = r.length := by
        have := (List.getElem?_eq_some_iff.mp e1').1
        simp at this; omega
      subst hl
      rw [List.getElem?_append_right (Nat.le_refl _)] at e1'
      rw [List.getElem?_append_right (by rw [h.len]; exact Nat.le_refl _)] at e2'
      simp at e1'
      rw [h.len] at e2'
      simp at e2'
      subst e1'; subst e2'
      exact k
  · obtain ⟨t1, t2, t3, t4⟩ := h.tb.at_ t ht
    have hp : t.1 ≠ p := fun z => by rw [z, upd_same] at t3; cases t3
    refine ⟨t1, t2, by rw [upd_ne hp] at t3; exact t3, fun m => ?_⟩
    rcases List.mem_append.mp m with m | m
    · exact t4 m
    · exact hp (List.mem_singleton.mp m)
  · by_cases hb : b = p
    · rw [hb, e] at z; cases z
    · exact h.tb.nR b ps (by rw [upd_ne hb]; exact z)
end
section
variable {W : Wd} {X : Cx} {E : XK}
/-- no exception is borne -/
def noX {A : Type} (res : R A) : R A := match res with
  | .ok a => .ok a
  | _ => .bad
@[simp] theorem noX_ok {A : Type} (a : A) : noX (R.ok a) = .ok a := rfl
@[simp] theorem noX_exc {A : Type} (c : Nat) (p : Option D) (st : Store) : noX (R.exc c p st : R A) = .bad := rfl
@[simp] theorem noX_bad {A : Type} : noX (R.bad : R A) = .bad := rfl
theorem bindN {A B : Type} {Rs Rs' F F' : Hp} {r r' : List Addr} {E E' : XK} {res : R A} {f : A → R B} {K : B → Prop} {K' : A → Prop} (h : PostX W Rs F r ((noX res).bind f) K E) (k : ∀ a, res = .ok a → PostX W Rs F r (f a) K E → K' a) : PostX W Rs' F' r' res K' E' := by
  cases res with
  | ok a => exact k a rfl h
  | exc c p st' => exact h.elim
  | bad => exact h
def DTs (W : Wd) (X : Cx) (E : XK) (ifs : List Expr) (f : TV) : Prop := PTs X ifs (tDT W E f)
def tYesD : TV := fun _ st => .ok (true, st)
theorem dts_nil : DTs W X E [] tYesD := ⟨fun pins s sg H Q I ⟨Rs, F, r, env, st, a, b, c⟩ => pts_nil.run pins s sg H Q I (onT_here a c)⟩
theorem dts_one {c : Expr} {f : TV} (h : DT W X E c f) : DTs W X E [c] f := pts_one h
def wipeD (env : Env) : List Nat → Env
  | [] => env
  | v :: vs => (wipeD env vs).set v none
theorem wipe_ok {F : Hp} {r : List Addr} {sg : St} {env : Env} (h : EnvOk F r sg env) : ∀ vs : List Nat, EnvOk F r (wipe sg vs) (wipeD env vs)
  | [] => h
  | v :: vs => by
    have ih := wipe_ok h vs
    unfold wipe wipeD
    refine ⟨by simp [ih.len], fun j e q => ?_⟩
    by_cases hj : v = j
    · subst hj
      by_cases hl : v < (wipeD env vs).length
      · rw [List.getElem?_set_self hl] at q; cases q
      · rw [List.getElem?_eq_none (by simp; omega)] at q; cases q
    · rw [List.getElem?_set_ne hj] at q ⊢
      exact ih.at_ j e q
/-- the block's target: one name, or two -/
inductive Tg1 where
  | one (j : Nat)
  | two (j k : Nat)
def Tg1.put : Tg1 → D → Env → Option Env
  | .one j, d, env => some (env.set j (some d))
  | .two j k, .tup [a, b], env => some ((env.set j (some a)).set k (some b))
  | _, _, _ => none
def Tg1.inside : Tg1 → List Nat → Bool
  | .one j, vs => vs.contains j
  | .two j k, vs => vs.contains j && vs.contains k
def Tg1.rd (K : PySem.W.Frag) : Tg1 → TG
  | .one j => gName j
  | .two j k => gTup K 2 (gCons (gName j) (gCons (gName k) gNil))
def Tg1.On (X : Cx) (tg : Expr) (t : Tg1) : Prop := PG X tg (t.rd X.K)
theorem tg_one {x : Str} {pos : Pos} {j : Nat} (hN : X.N.Nodup) (hi : X.N[j]? = some x) (hx : Loc X.env.scope x) (hf : X.fn x = true ∨ X.env.scope.names.lookup x = some .local := by first | exact .inl rfl | exact .inr rfl | assumption) : Tg1.On X (.Name x pos) (.one j) := pg_name hN hi hx hf
theorem tg_two {x y : Str} {p1 p2 : Pos} {j k kk : Nat} {pos : Pos} (hc : X.calm = true) (h1 : PG X (.Name x p1) (gName j)) (h2 : PG X (.Name y p2) (gName k)) : Tg1.On X (.Tuple [.Name x p1, .Name y p2] kk pos) (.two j k) :=
  pg_tup hc (pgs_cons h1 (pgs_cons h2 pgs_nil (by rfl)) (by rfl)) (by rfl) (by rfl)
theorem wipe_set {sg : St} {x : Option V} {j : Nat} : ∀ {vs : List Nat}, vs.contains j = true → wipe (sg.set j x) vs = wipe sg vs
  | [], h => by simp at h
  | v :: vs, h => by
    unfold wipe
    by_cases hj : j = v
    · subst hj
      have : ∀ (vs : List Nat) (sg : St), (wipe (sg.set j x) vs).set j none = (wipe sg vs).set j none := by
        intro vs
        induction vs with
        | nil => intro sg; unfold wipe; rw [List.set_set]
        | cons u us ih =>
          intro sg
          unfold wipe
          by_cases hu : u = j
          · subst hu; rw [List.set_set, List.set_set, ih]
          · rw [List.set_comm _ _ hu, List.set_comm _ _ hu, ih]
      exact this vs sg
    · have : vs.contains j = true := by
        rw [List.contains_cons] at h
        simp [hj] at h
        simpa using h
      rw [wipe_set this]
theorem wipe_wipe {sg : St} : ∀ {vs : List Nat}, wipe (wipe sg vs) vs = wipe sg vs := by
  intro vs
  have : ∀ (us : List Nat) (sg : St), (∀ u ∈ us, vs.contains u = true) → wipe (wipe sg us) vs = wipe sg vs := by
    intro us
    induction us with
    | nil => intro sg _; rfl
    | cons u us ih =>
      intro sg h
      rw [wipe, wipe_set (h u (by simp)), ih sg fun v hv => h v (by simp [hv])]
  exact this vs sg fun u hu => by simpa using hu
theorem Tg1.post {t : Tg1} {vs : List Nat} (hin : t.inside vs = true) {Rs F H : Hp} {r : List Addr} {st : Store} {sg : St} {env : Env} {v : V} {d : D} {env1 : Env} {N : St → Hp → Prop} (hH : Holds W Rs F H r st) (hE : EnvOk F r (wipe sg vs) env) (k : Rep F r v d) (e : t.put d env = some env1)
    (q : ∀ sg2, EnvOk F r sg2 env1 → wipe sg2 vs = wipe sg vs → N sg2 H) : t.rd X.K v (wipe sg vs) H N := by
  cases t with
  | one j =>
    cases e
    exact q _ (hE.set k j) (by rw [wipe_set hin, wipe_wipe])
  | two j l =>
    unfold Tg1.inside at hin
    rw [Bool.and_eq_true] at hin
    cases d with
    | tup ds =>
      match ds, e, k with
      | [a, b], e, .tup h (.cons k1 (.cons k2 .nil)) =>
        cases e
        refine ⟨_, _, rfl, .of (hH.sF _ _ h), rfl, _, _, rfl, _, _, rfl, rfl, q _ ((hE.set k1 j).set k2 l) ?_⟩
        rw [wipe_set hin.2, wipe_set hin.1, wipe_wipe]
      | [], e, _ => cases e
      | [_], e, _ => cases e
      | _ :: _ :: _ :: _, e, _ => cases e
    | _ => cases e
def lcGo (sub : List (Nat × List D)) (t : Tg1) (tt : TV) (te : EV) (env0 : Env) : List D → List D → Store → R (List D × Store)
  | [], acc, st => if still sub st = true then .ok (acc, st) else .bad
  | d :: ds, acc, st => if still sub st = true then (match t.put d env0 with
    | some env1 => (noX (tt env1 st)).bind fun b => if b.1 = true then (noX (te env1 b.2)).bind fun y => lcGo sub t tt te env0 ds (acc ++ [y.1]) y.2 else lcGo sub t tt te env0 ds acc b.2
    | none => .bad) else .bad
def eLc (m : Bool) (it : IV) (vs : List Nat) (t : Tg1) (tt : TV) (te : EV) : EV := fun env st => (it env st).bind fun a => if a.1.1.length ≤ LIM then
  (lcGo a.1.2 t tt te (wipeD env vs) a.1.1 [] a.2).bind fun b => newL m b.1 b.2 else .bad
theorem lc_post {m : Bool} {tg iter : Expr} {wi : TI} {it : IV} {vs : List Nat} {t : Tg1} {tt : TV} {te : EV} (hin : t.inside vs = true)
    (qi : ∀ Rs F H r sg env st (Q : It → Hp → Prop), Holds W Rs F H r st → EnvOk F r sg env → PostX W Rs F r (it env st) (fun a => ∀ J F' H' r', Same F F' → Ext r r' → Holds W Rs F' H' r' a.2 → Drv W F' r' J a.1 → Q J H') E → wi sg H Q)
    {Rs F H r sg env st Q} (hH : Holds W Rs F H r st) (hE : EnvOk F r sg env) (hP : Post W Rs F r (eLc m it vs t tt te env st) Q E) : tLc wi (t.rd X.K) (tDT W E0 tt) (tDE W E0 te) vs sg H Q := by
  refine qi Rs F H r sg env st _ hH hE (bindX hP fun a ea z J F0 H0 r0 s0 x0 h0 drv => ?_)
  obtain ⟨⟨items, sub⟩, st0⟩ := a
  by_cases hl : items.length ≤ LIM
  · simp only [if_pos hl] at z
    intro D hD
    have z0 : Post W Rs F0 r0 ((lcGo sub t tt te (wipeD env vs) items [] st0).bind fun b => newL m b.1 b.2) Q E := Post.later s0 x0 z
    have hE0 := wipe_ok (hE.mono s0 x0) vs
    have hRD : Rs D = none := h0.freeR hD
    refine ⟨fun i mm H' => mm = items.length - i ∧ i ≤ items.length ∧ ∃ F' r' st' acc accV, Same F0 F' ∧ Ext r0 r' ∧ Holds W (upd Rs D (.lst accV)) F' H' r' st' ∧ Reps F' r' accV acc ∧ acc.length ≤ i ∧
      Post W Rs F' r' ((lcGo sub t tt te (wipeD env vs) (items.drop i) acc st').bind fun b => newL m b.1 b.2) Q E,
      ⟨items.length, by simp, Nat.zero_le _, F0, r0, st0, [], [], Same.refl _, Ext.refl _, h0.guard hD, .nil, Nat.le_refl _, z0⟩, ?_⟩
    rintro i mm H' ⟨rfl, hi, F', r', st', acc, accV, s, x, hH', kacc, hacc, hP'⟩
    have hlen := kacc.length
    by_cases hlt : i < items.length
    · rw [List.drop_eq_getElem_cons hlt] at hP'
      unfold lcGo at hP'
      by_cases hst : still sub st' = true
      · rw [if_pos hst] at hP'
        cases ep : t.put items[i] (wipeD env vs) with
        | none => rw [ep] at hP'; exact hP'.elim
        | some env1 =>
          rw [ep] at hP'
          simp only at hP'
          obtain ⟨d1, _⟩ := drv i _ F' H' r' st' s x hH' hst
          obtain ⟨go, yld⟩ := d1 items[i] (by simp [hlt])
          refine .inr ⟨go, fun H2 => i + 1 ≤ items.length ∧ ∃ F' r' st' acc accV, Same F0 F' ∧ Ext r0 r' ∧ Holds W (upd Rs D (.lst accV)) F' H2 r' st' ∧ Reps F' r' accV acc ∧ acc.length ≤ i + 1 ∧
            Post W Rs F' r' ((lcGo sub t tt te (wipeD env vs) (items.drop (i + 1)) acc st').bind fun b => newL m b.1 b.2) Q E, fun H2 y => ⟨items.length - (i + 1), by omega, rfl, y⟩, fun v H1 y => ?_⟩
          obtain ⟨F1, s1, h1, k1⟩ := yld v H1 y
          refine Tg1.post hin h1 (hE0.mono (s.trans s1) x) k1 ep fun sg2 hE2 hw => ⟨hw, ?_⟩
          have hP1 := Post.later s1 (Ext.refl _) hP'
          -- the tests
          have asc : ((noX (tt env1 st')).bind fun b => if b.1 = true then (noX (te env1 b.2)).bind fun y => lcGo sub t tt te (wipeD env vs) (items.drop (i + 1)) (acc ++ [y.1]) y.2 else lcGo sub t tt te (wipeD env vs) (items.drop (i + 1)) acc b.2).bind (fun b => newL m b.1 b.2) =
              (noX (tt env1 st')).bind fun b => (if b.1 = true then (noX (te env1 b.2)).bind fun y => lcGo sub t tt te (wipeD env vs) (items.drop (i + 1)) (acc ++ [y.1]) y.2 else lcGo sub t tt te (wipeD env vs) (items.drop (i + 1)) acc b.2).bind (fun b => newL m b.1 b.2) := by
            cases noX (tt env1 st') <;> rfl
          rw [asc] at hP1
          refine ⟨_, F1, r', env1, st', h1, hE2, bindN hP1 fun b eb z2 F2 H2 r2 s2 x2 h2 => ?_⟩
          obtain ⟨bb, st2⟩ := b
          cases bb with
          | false =>
            exact ⟨hlt, F2, r2, st2, acc, accV, (s.trans s1).trans s2, x.trans x2, h2, kacc.mono (s1.trans s2) x2, by omega, Post.later s2 x2 z2⟩
          | true =>
            have asc2 : ((noX (te env1 st2)).bind fun y => lcGo sub t tt te (wipeD env vs) (items.drop (i + 1)) (acc ++ [y.1]) y.2).bind (fun b => newL m b.1 b.2) = (noX (te env1 st2)).bind fun y => (lcGo sub t tt te (wipeD env vs) (items.drop (i + 1)) (acc ++ [y.1]) y.2).bind (fun b => newL m b.1 b.2) := by
              cases noX (te env1 st2) <;> rfl
            simp only [if_true] at z2
            rw [asc2] at z2
            refine ⟨_, F2, r2, env1, st2, h2, hE2.mono s2 x2, bindN (Post.later s2 x2 z2) fun y ey z3 F3 H3 r3 v3 s3 x3 h3 k3 => ?_⟩
            refine ⟨accV, h3.at_guard.1, by rw [hlen]; exact lim_lt (by omega), hlt, F3, r3, y.2, acc ++ [y.1], accV ++ [v3], ((s.trans s1).trans s2).trans s3, (x.trans x2).trans x3, h3.reguard, Reps.snoc (kacc.mono ((s1.trans s2).trans s3) (x2.trans x3)) k3, by simp; omega, Post.later s3 x3 z3⟩
      · rw [if_neg hst] at hP'; exact hP'.elim
    · have e : items.drop i = [] := List.drop_eq_nil_of_le (by omega)
      rw [e] at hP'
      unfold lcGo at hP'
      by_cases hst : still sub st' = true
      · rw [if_pos hst] at hP'
        obtain ⟨_, d2⟩ := drv i _ F' H' r' st' s x hH' hst
        refine .inl ⟨d2 (by simpa using hlt), ?_⟩
        change Post W Rs F' r' (newL m acc st') Q E at hP'
        unfold newL at hP'
        cases m with
        | true =>
          refine hP' F' H' (r' ++ [D]) (.ref D) (Same.refl _) (Ext.snoc _ _) (hH'.adopt hRD ⟨accV, hH'.at_guard.1, kacc.mono (Same.refl _) (Ext.snoc _ _)⟩) (.ref ?_)
          show (r' ++ [D])[st'.length]? = some D
          rw [← hH'.len, List.getElem?_append_right (Nat.le_refl _)]; simp
        | false =>
          obtain ⟨s2, h2⟩ := hH'.thaw hRD
          exact hP' _ H' r' (.ref D) s2 (Ext.refl _) h2 (.lst upd_same (kacc.mono s2 (Ext.refl _)))
      · rw [if_neg hst] at hP'; exact hP'.elim
  · simp only [if_neg hl] at z
    exact z.elim
theorem de_lc (m : Bool) {elt tg iter : Expr} {ifs : List Expr} {scope : Scope} {own : List (Str × Nat)} {vs : List Nat} {pos : Pos} {it : IV} {t : Tg1} {tt : TV} {te : EV} (hc : X.calm = true) (hN : X.N.Nodup) (hi : DI W X E tg iter it) (ok : BlkOk X.N X.env.scope scope own) (hv : own.map (·.2) = vs) (hin : t.inside vs = true)
    (hg : ∀ (s : Shared) (H : Hp) (C : Addr) (cl : List (Str × Addr)) (fp : List Addr), Tg1.On (X.blk s H scope (compEnvC scope cl C X.env) fp) tg t) (ht : ∀ (s : Shared) (H : Hp) (C : Addr) (cl : List (Str × Addr)) (fp : List Addr), DTs W (X.blk s H scope (compEnvC scope cl C X.env) fp) E0 ifs tt)
    (he : ∀ (s : Shared) (H : Hp) (C : Addr) (cl : List (Str × Addr)) (fp : List Addr), DE W (X.blk s H scope (compEnvC scope cl C X.env) fp) E0 elt te) (hs : ∀ x, foldedSetIterable iter X.env x = pure x := by intro _; rfl) :
    DE W X E (.ListComp elt [⟨tg, iter, ifs, 0⟩] scope pos) (eLc m it vs t tt te) := by
  obtain ⟨wi, pi, qi⟩ := hi
  subst hv
  exact .mk (pe_lc (g := t.rd X.K) hc hN pi ok (fun s H C cl fp => hg s H C cl fp) ht he hs) fun Rs F H r sg env st Q hH hE hP => lc_post (tg := tg) (iter := iter) hin qi hH hE hP
theorem ds_setLc (m : Bool) {i : Nat} {y : Str} {py : Pos} {elt tg iter : Expr} {ifs : List Expr} {scope : Scope} {own : List (Str × Nat)} {vs : List Nat} {pos spos : Pos} {it : IV} {t : Tg1} {tt : TV} {te : EV} (hc : X.calm = true) (hN : X.N.Nodup) (hy : X.N[i]? = some y) (hyl : X.env.scope.names.lookup y = some .local)
    (hsw : swapsWith (.ListComp elt [⟨tg, iter, ifs, 0⟩] scope pos) (some (.Name y py)) spos.line X.env = pure true) (hi : DI W X E tg iter it) (ok : BlkOk X.N X.env.scope scope own) (hv : own.map (·.2) = vs) (hin : t.inside vs = true)
    (hg : ∀ (s : Shared) (H : Hp) (C : Addr) (cl : List (Str × Addr)) (fp : List Addr), Tg1.On (X.blk s H scope (compEnvC scope cl C X.env) fp) tg t) (ht : ∀ (s : Shared) (H : Hp) (C : Addr) (cl : List (Str × Addr)) (fp : List Addr), DTs W (X.blk s H scope (compEnvC scope cl C X.env) fp) E0 ifs tt)
    (he : ∀ (s : Shared) (H : Hp) (C : Addr) (cl : List (Str × Addr)) (fp : List Addr), DE W (X.blk s H scope (compEnvC scope cl C X.env) fp) E0 elt te) (hs : ∀ x, foldedSetIterable iter X.env x = pure x := by intro _; rfl) :
    DS W X E (.Assign [.Name y py] (.ListComp elt [⟨tg, iter, ifs, 0⟩] scope pos) spos) (sAsg (eLc m it vs t tt te) (gN i)) := by
  obtain ⟨wi, pi, qi⟩ := hi
  subst hv
  exact .mk (ps_setLc (g := t.rd X.K) hc hN hy hyl hsw pi ok (fun s H C cl fp => hg s H C cl fp) ht he hs) fun Rs F H r sg env st D hH hE hP => sAsg_post (fun Rs F H r sg env st Q hH hE hP => lc_post (tg := tg) (iter := iter) hin qi hH hE hP) gN_ok hH hE hP
def intsD (lo : Int) (n : Nat) : List D := (List.range n).map fun (i : Nat) => D.int (lo + (i : Int))
theorem ints_at (lo : Int) (n i : Nat) (h : i < n) : (intsD lo n)[i]? = some (.int (lo + (i : Int))) := by simp [intsD, h]
theorem drv_range {F0 : Hp} {r0 : List Addr} {lo : Int} {n : Nat} : Drv W F0 r0 (Itr lo n) (intsD lo n, []) := fun i Rs F H r st s x hH hst => by
  refine ⟨fun d e => ?_, fun hl => by show n ≤ i; simpa [intsD] using hl⟩
  have hi : i < n := by
    have := (List.getElem?_eq_some_iff.mp e).1
    simpa [intsD] using this
  rw [show (intsD lo n, ([] : List (Nat × List D))).1 = intsD lo n from rfl, ints_at lo n i hi] at e
  cases e
  refine ⟨hi, fun y H' yl => ?_⟩
  obtain ⟨e2, e3⟩ := yl
  subst e2 e3
  exact ⟨F, Same.refl _, hH, .int _⟩
def iR1 (g : AV) : IV := fun env st => (g env st).bind fun a => match a.1 with
  | [.int n] => if -1000000 ≤ n ∧ n ≤ 1000000 then .ok ((intsD 0 n.toNat, []), a.2) else .bad
  | _ => .bad
def iR2 (g : AV) : IV := fun env st => (g env st).bind fun a => match a.1 with
  | [.int i, .int n] => if (-1000000 ≤ i ∧ i ≤ 1000000) ∧ -1000000 ≤ n ∧ n ≤ 1000000 then .ok ((intsD i (n - i).toNat, []), a.2) else .bad
  | _ => .bad
theorem di_r1 {tg a : Expr} {g : AV} {p pos : Pos} (hg : Gl X "range") (hm : X.mg "range" = none) (ha : DA W X E [a] g) (hs : starEach [a] X.env = [(false, eval a X.env)] := by rfl) : DI W X E tg (.Call (.Name "range" p) [a] [] pos) (iR1 g) := by
  obtain ⟨t, pa, q⟩ := ha.ex
  refine ⟨_, pi_range1 hg hm pa hs, fun Rs F H r sg env st Q hH hE hP => ?_⟩
  refine q Rs F H r sg env st _ hH hE (bindX hP fun a ea z F1 H1 r1 vs s1 x1 h1 k1 => ?_)
  obtain ⟨ds, st1⟩ := a
  simp only at z
  split at z
  · rename_i n
    split at z
    · rename_i hc
      match k1 with
      | .cons (.int _) .nil => exact ⟨n, rfl, by omega, by omega, z _ F1 H1 r1 s1 x1 h1 drv_range⟩
    · exact z.elim
  · exact z.elim
theorem di_r2 {tg a b : Expr} {g : AV} {p pos : Pos} (hg : Gl X "range") (hm : X.mg "range" = none) (ha : DA W X E [a, b] g) (hs : starEach [a, b] X.env = [(false, eval a X.env), (false, eval b X.env)] := by rfl) (hs2 : starEach [b] X.env = [(false, eval b X.env)] := by rfl) :
    DI W X E tg (.Call (.Name "range" p) [a, b] [] pos) (iR2 g) := by
  obtain ⟨t, pa, q⟩ := ha.ex
  refine ⟨_, pi_range2 hg hm pa hs hs2, fun Rs F H r sg env st Q hH hE hP => ?_⟩
  refine q Rs F H r sg env st _ hH hE (bindX hP fun a ea z F1 H1 r1 vs s1 x1 h1 k1 => ?_)
  obtain ⟨ds, st1⟩ := a
  simp only at z
  split at z
  · rename_i i n
    split at z
    · rename_i hc
      match k1 with
      | .cons (.int _) (.cons (.int _) .nil) => exact ⟨i, n, rfl, ⟨by omega, by omega, by omega, by omega⟩, z _ F1 H1 r1 s1 x1 h1 drv_range⟩
    · exact z.elim
  · exact z.elim
def iR3 (g : AV) : IV := fun env st => (g env st).bind fun a => match a.1 with
  | [.int i, .int n, .int c] => if (-1000000 ≤ i ∧ i ≤ 1000000) ∧ (-1000000 ≤ n ∧ n ≤ 1000000) ∧ c = -1 then .ok (((List.range (i - n).toNat).map (fun (k : Nat) => D.int (i + (k : Int) * -1)), []), a.2) else .bad
  | _ => .bad
end
end Dl
namespace Dl
open PySem L2
/-- a comprehension's scope, as the names within see it -/
def relS (scope sc : Scope) : Scope := { scope with names := scope.names.map fun (n, k) => if (k == .free && sc.kind == .function && sc.names.lookup n == some .cell) then (n, .cell) else (n, k) }
theorem blkOk_nest {X : Cx} {N : List Str} {s : Shared} {H : Hp} {scope : Scope} {C : Addr} {cl : List (Str × Addr)} {fp : List Addr} {own : List (Str × Nat)} {sc scope2 : Scope} (hN : X.N = N) (hs : X.env.scope = sc)
    (h : blkC N (relS scope sc) scope2 own = true) : BlkOk (X.blk s H scope (compEnvC scope cl C X.env) fp).N (X.blk s H scope (compEnvC scope cl C X.env) fp).env.scope scope2 own := by
  subst hN hs
  exact blkOk_by h
end Dl
namespace Dl
open PySem L2
section
variable {W : Wd} {X : Cx} {E : XK}
def pairUp (ds : List D) : List D := ds.mapIdx fun (i : Nat) d => D.tup [.int (i : Int), d]
theorem pairUp_len (ds : List D) : (pairUp ds).length = ds.length := by simp [pairUp]
theorem pairUp_at {ds : List D} {i : Nat} {e : D} (h : (pairUp ds)[i]? = some e) : ∃ d, ds[i]? = some d ∧ e = .tup [.int (i : Int), d] := by
  unfold pairUp at h
  rw [List.getElem?_mapIdx] at h
  cases q : ds[i]? with
  | none => rw [q] at h; cases h
  | some d => rw [q] at h; cases h; exact ⟨d, rfl, rfl⟩
/-- a list by its items, as it stands -/
def listOf (st : Store) : D → Option Wk
  | .lst ds => some (ds, [])
  | .ref n => match st[n]? with
    | some (.lst ds) => some (ds, [(n, ds)])
    | _ => none
  | _ => none
theorem listOf_ok {Rs F H : Hp} {r : List Addr} {st : Store} {v : V} {d : D} {w : Wk} (h : Holds W Rs F H r st) (k : Rep F r v d) (e : listOf st d = some w) :
    ∃ a, v = .ref a ∧ (∃ vs, H a = some (.lst vs) ∧ Reps F r vs w.1) ∧ ∀ Rs' F' H' r' st', Same F F' → Ext r r' → Holds W Rs' F' H' r' st' → still w.2 st' = true → ∃ vs, H' a = some (.lst vs) ∧ Reps F' r' vs w.1 := by
  cases k with
  | @lst a vs ds q k => cases e; exact ⟨a, rfl, ⟨vs, h.sF _ _ q, k⟩, fun Rs' F' H' r' st' s x h' _ => ⟨vs, h'.sF _ _ (s _ _ q), k.mono s x⟩⟩
  | @ref a n q =>
    unfold listOf at e
    simp only at e
    split at e
    · rename_i ds e1
      cases e
      obtain ⟨vs, q1, k⟩ := h.ob n a _ q e1
      refine ⟨a, rfl, ⟨vs, q1, k⟩, fun Rs' F' H' r' st' s x h' hst => ?_⟩
      obtain ⟨vs', q1', k'⟩ := h'.ob n a _ (x _ _ q) (still_at (ds := ds) hst List.mem_cons_self)
      exact ⟨vs', q1', k'⟩
    · cases e
  | _ => cases e
theorem drv_enum {K : PySem.W.Frag} {F0 : Hp} {r0 : List Addr} {a : Addr} {w : Wk} (h : ∀ Rs F H r st, Same F0 F → Ext r0 r → Holds W Rs F H r st → still w.2 st = true → ∃ vs, H a = some (.lst vs) ∧ Reps F r vs w.1) : Drv W F0 r0 (Ite K a) (pairUp w.1, w.2) := fun i Rs F H r st s x hH hst => by
  obtain ⟨vs, h1, k1⟩ := h Rs F H r st s x hH hst
  refine ⟨fun d e => ?_, fun hl => ⟨vs, .of h1, by rw [k1.length]; rw [pairUp_len] at hl; exact hl⟩⟩
  obtain ⟨d', e', rfl⟩ := pairUp_at e
  obtain ⟨v, e1, k⟩ := k1.get e'
  refine ⟨⟨vs, v, .of h1, e1⟩, fun y H' yl => ?_⟩
  obtain ⟨T, z, rfl, hT, rfl, yl⟩ := yl
  have := yl vs (.of h1)
  rw [e1] at this; cases this
  obtain ⟨s1, h2⟩ := hH.frozen (o := .tup [.int (i : Nat), v]) hT
  exact ⟨_, s1, h2, .tup upd_same (.cons (.int _) (.cons (k.mono s1 (Ext.refl _)) .nil))⟩
def iEn (g : AV) : IV := fun env st => (g env st).bind fun a => match a.1 with
  | [d] => match listOf a.2 d with
    | some w => .ok ((pairUp w.1, w.2), a.2)
    | none => .bad
  | _ => .bad
theorem di_enum {e : Expr} {g : AV} {p pos tpos : Pos} {elts : List Expr} {kk : Nat} (hg : Gl X "enumerate") (hm : X.mg "enumerate" = none) (ha : DA W X E [e] g) (hs : starEach [e] X.env = [(false, eval e X.env)] := by rfl) :
    DI W X E (.Tuple elts kk tpos) (.Call (.Name "enumerate" p) [e] [] pos) (iEn g) := by
  obtain ⟨t, pa, q⟩ := ha.ex
  refine ⟨_, pi_enum hg hm pa hs, fun Rs F H r sg env st Q hH hE hP => ?_⟩
  refine q Rs F H r sg env st _ hH hE (bindX hP fun a ea z F1 H1 r1 vs s1 x1 h1 k1 => ?_)
  obtain ⟨ds, st1⟩ := a
  simp only at z
  split at z
  · split at z
    · rename_i d w e
      match k1 with
      | .cons k .nil =>
        obtain ⟨a, rfl, ⟨vs, h2, k2⟩, hh⟩ := listOf_ok h1 k e
        exact ⟨a, vs, rfl, .of h2, z _ F1 H1 r1 s1 x1 h1 (drv_enum hh)⟩
    · exact z.elim
  · exact z.elim
def zipUp : List D → List D → List D
  | a :: as, b :: bs => .tup [a, b] :: zipUp as bs
  | _, _ => []
theorem zipUp_len : ∀ as bs : List D, (zipUp as bs).length = min as.length bs.length
  | [], _ => by simp [zipUp]
  | _ :: _, [] => by simp [zipUp]
  | a :: as, b :: bs => by simp [zipUp, zipUp_len as bs]
theorem zipUp_at : ∀ {as bs : List D} {i : Nat} {e : D}, (zipUp as bs)[i]? = some e → ∃ a b, as[i]? = some a ∧ bs[i]? = some b ∧ e = .tup [a, b]
  | [], _, i, e, h => by simp [zipUp] at h
  | _ :: _, [], i, e, h => by simp [zipUp] at h
  | a :: as, b :: bs, 0, e, h => by simp [zipUp] at h; exact ⟨a, b, rfl, rfl, h.symm⟩
  | a :: as, b :: bs, i + 1, e, h => by
    simp [zipUp] at h
    obtain ⟨x, y, h1, h2, h3⟩ := zipUp_at h
    exact ⟨x, y, by simpa using h1, by simpa using h2, h3⟩
theorem drv_zip {K : PySem.W.Frag} {F0 : Hp} {r0 : List Addr} {a b : Addr} {w w' : Wk} (h : ∀ Rs F H r st, Same F0 F → Ext r0 r → Holds W Rs F H r st → still w.2 st = true → ∃ vs, H a = some (.lst vs) ∧ Reps F r vs w.1)
    (h' : ∀ Rs F H r st, Same F0 F → Ext r0 r → Holds W Rs F H r st → still w'.2 st = true → ∃ vs, H b = some (.lst vs) ∧ Reps F r vs w'.1) : Drv W F0 r0 (Itz K a b) (zipUp w.1 w'.1, w.2 ++ w'.2) := fun i Rs F H r st s x hH hst => by
  have hst' : still w.2 st = true ∧ still w'.2 st = true := by
    unfold still at hst ⊢
    rw [List.all_append, Bool.and_eq_true] at hst
    exact hst
  obtain ⟨vs, h1, k1⟩ := h Rs F H r st s x hH hst'.1
  obtain ⟨ws, h2, k2⟩ := h' Rs F H r st s x hH hst'.2
  refine ⟨fun d e => ?_, fun hl => ⟨vs, ws, .of h1, .of h2, ?_⟩⟩
  · obtain ⟨d1, d2, e1, e2, rfl⟩ := zipUp_at e
    obtain ⟨v1, f1, m1⟩ := k1.get e1
    obtain ⟨v2, f2, m2⟩ := k2.get e2
    refine ⟨⟨vs, ws, v1, v2, .of h1, .of h2, f1, f2⟩, fun y H' yl => ?_⟩
    obtain ⟨T, z1, z2, rfl, hT, rfl, yl1, yl2⟩ := yl
    have q1 := yl1 vs (.of h1)
    have q2 := yl2 ws (.of h2)
    rw [f1] at q1; cases q1
    rw [f2] at q2; cases q2
    obtain ⟨s1, h3⟩ := hH.frozen (o := .tup [v1, v2]) hT
    exact ⟨_, s1, h3, .tup upd_same (.cons (m1.mono s1 (Ext.refl _)) (.cons (m2.mono s1 (Ext.refl _)) .nil))⟩
  · rw [zipUp_len] at hl
    rw [k1.length, k2.length]
    omega
def iZp (g : AV) : IV := fun env st => (g env st).bind fun a => match a.1 with
  | [d, e] => match listOf a.2 d, listOf a.2 e with
    | some w, some w' => .ok ((zipUp w.1 w'.1, w.2 ++ w'.2), a.2)
    | _, _ => .bad
  | _ => .bad
theorem di_zip {e e2 : Expr} {g : AV} {p pos tpos : Pos} {elts : List Expr} {kk : Nat} (hg : Gl X "zip") (hm : X.mg "zip" = none) (ha : DA W X E [e, e2] g)
    (hs : starEach [e, e2] X.env = (false, eval e X.env) :: starEach [e2] X.env := by rfl) (hpl : (backTo pos (starEach [e2] X.env)).any (·.1) = false := by rfl) :
    DI W X E (.Tuple elts kk tpos) (.Call (.Name "zip" p) [e, e2] [] pos) (iZp g) := by
  obtain ⟨t, pa, q⟩ := ha.ex
  refine ⟨_, pi_zip hg hm pa hs hpl, fun Rs F H r sg env st Q hH hE hP => ?_⟩
  refine q Rs F H r sg env st _ hH hE (bindX hP fun a ea z F1 H1 r1 vs s1 x1 h1 k1 => ?_)
  obtain ⟨ds, st1⟩ := a
  simp only at z
  split at z
  · split at z
    · rename_i d e w w' e1 e2
      match k1 with
      | .cons k (.cons k' .nil) =>
        obtain ⟨a, rfl, ⟨vs, h2, k2⟩, hh⟩ := listOf_ok h1 k e1
        obtain ⟨b, rfl, ⟨ws, h3, k3⟩, hh'⟩ := listOf_ok h1 k' e2
        exact ⟨a, b, vs, ws, rfl, .of h2, .of h3, z _ F1 H1 r1 s1 x1 h1 (drv_zip hh hh')⟩
    · exact z.elim
  · exact z.elim
end
end Dl
namespace Dl
open PySem L2
section
variable {P : Program} {w : World} {W : Wd} {X : Cx} {E : XK}
/-- THE RULE for a def -/
theorem fnD {mg : Str → Option Value} {base : Heap} {x qual : Str} {s : Stmt} {f : Addr} {fd : FuncData} {N ps : List Str} {k n : Nat} {b : SV} (F : Fun W.K x qual s f fd) (S : FnScope N ps (defScope s)) (hn : ps.length = n)
    (hbody : ∀ (cdv : Value) (A : Around) (outer : List PySem.Env) (sh : Shared) (H : Hp) (E : XK), Room k (A.deeper (PyProof.Rows.envOfC qual (defScope s) sh.heap.objs.size f cdv)) →
      DB W (cxOf (L2.CX P w) P w W.K mg base N qual (defScope s) f cdv A outer sh H E) E (defBody s) b) : FnOk P w W.K mg base (L2.CX P w) (k + 1) f fd ps (spD W n (funD N.length b)) := by
  refine F.okX S (fun vs H Q E h => ?_) (fun cdv A outer sh H vs Q E hr h => ?_)
  · obtain ⟨Rs, F, r, st, ds, _, h, hl, _⟩ := h
    rw [h.length, hl, hn]
  · obtain ⟨Rs, F, r, st, ds, hH, hk, hl, hP⟩ := h
    obtain ⟨t, p, q⟩ := (hbody cdv A outer sh H E hr).ex
    refine ⟨t, p, q Rs F H r _ _ st _ hH (EnvOk.start hk) ?_⟩
    unfold funD at hP
    cases eb : b (List.map some ds ++ List.replicate (N.length - ds.length) none) st with
    | nx e s' => rw [eb] at hP; exact fun F' H' r' sg' s1 x1 h1 k1 => hP F' H' r' .non s1 x1 h1 .non
    | rt d s' => rw [eb] at hP; exact hP
    | bk e s' => rw [eb] at hP; exact hP.elim
    | ct e s' => rw [eb] at hP; exact hP.elim
    | exc c p s' => rw [eb] at hP; exact hP
    | bad => rw [eb] at hP; exact hP.elim
def eCall (n : Nat) (g : FV) (ga : AV) : EV := fun env st => (ga env st).bind fun a => if a.1.length = n then g a.1 a.2 else .bad
section
variable {CX : CXT} {k j n : Nat} {f : Addr} {fd : FuncData} {ps : List Str} {g : FV} {x : Str} {e : Expr} {es : List Expr} {p pos apos : Pos} {ga : AV}
theorem de_call (hK : X.K = W.K) (F : FnOk X.prog X.w W.K X.mg X.base CX k f fd ps (spD W n g)) (hr : Room j X.A) (hj : k ≤ j) (hg : Gl X x) (hm : X.mg x = some (.ref f)) (hk : PySem.W.keepIn W.K (.ref f) = true) (hb : Binds W.K fd ps []) (hx : Passes CX X E)
    (ha : DA W X E (e :: es) ga) (hdb : (x == ("__debug__" : Str)) = false := by decide) (he : starEach (e :: es) X.env = (false, eval e X.env) :: starEach es X.env := by rfl) (hpl : (backTo pos (starEach es X.env)).any (·.1) = false := by rfl) :
    DE W X E (.Call (.Name x p) (e :: es) [] pos) (eCall n g ga) := by
  obtain ⟨t, pa, q⟩ := ha.ex
  refine .mk (pe_call (sp := spD W n g) (by rw [hK]; exact F) (hr.mono hj) hg hm (by rw [hK]; exact hk) (by rw [hK]; exact hb) .nil hx pa hdb he hpl) fun Rs F H r sg env st Q hH hE hP => ?_
  refine q Rs F H r sg env st _ hH hE (bindX hP fun a ea z F1 H1 r1 vs s1 x1 h1 k1 => ?_)
  by_cases hl : a.1.length = n
  · rw [if_pos hl] at z
    exact ⟨Rs, F1, r1, a.2, a.1, h1, by rw [List.append_nil]; exact k1, hl, Post.later s1 x1 z⟩
  · rw [if_neg hl] at z; exact z.elim
/-- o.m(..), o of the class c -/
def eMeth (c : Nat) (m : Str) (n : Nat) (g : FV) (fo : EV) (ga : AV) : EV := fun env st => (fo env st).bind fun o => match o.1 with
  | .ref i => match o.2[i]? with
    | some (.ins c' fs) => if c' = c ∧ fs.lookup m = none then (ga env o.2).bind fun a => if a.1.length + 1 = n then g (.ref i :: a.1) a.2 else .bad else .bad
    | _ => .bad
  | _ => .bad
theorem meth_post {m : Str} {c : Nat} {fo : EV} {to : TE} {ta : TA}
    (qo : ∀ Rs F H r sg env st Q, Holds W Rs F H r st → EnvOk F r sg env → Post W Rs F r (fo env st) Q E → to sg H Q)
    (qa : ∀ Rs F H r sg env st Q, Holds W Rs F H r st → EnvOk F r sg env → PostA W Rs F r (ga env st) Q E → ta sg H Q)
    {Rs F H r sg env st Q} (hH : Holds W Rs F H r st) (hE : EnvOk F r sg env) (hP : Post W Rs F r (eMeth c m n g fo ga env st) Q E) : tMeth (W.cls c) m (spD W n g) [] E to ta sg H Q := by
  refine qo Rs F H r sg env st _ hH hE (bindX hP fun o eo z F1 H1 r1 v1 s1 x1 h1 k1 => ?_)
  obtain ⟨d, st1⟩ := o
  cases k1 with
  | @ref a i e =>
    simp only at z
    split at z
    · rename_i c' fs e1
      split at z
      · rename_i hc
        obtain ⟨rfl, hm⟩ := hc
        obtain ⟨dx, vfs, e2, k2⟩ := h1.ob i a _ e e1
        refine ⟨a, dx, vfs, rfl, e2, k2.lookN hm, ?_⟩
        refine qa Rs F1 H1 r1 sg env st1 _ h1 (hE.mono s1 x1) (bindX (Post.later s1 x1 z) fun b eb z2 F2 H2 r2 vs s2 x2 h2 k2 => ?_)
        by_cases hl : b.1.length + 1 = n
        · rw [if_pos hl] at z2
          exact ⟨Rs, F2, r2, b.2, .ref i :: b.1, h2, by rw [List.append_nil]; exact .cons (.ref (x2 _ _ e)) k2, hl, Post.later s2 x2 z2⟩
        · rw [if_neg hl] at z2; exact z2.elim
      · exact z.elim
    · exact z.elim
  | _ => exact z.elim
theorem de_meth {o : Expr} {fo : EV} {c : Nat} {m : Str} {pl : Sem Bool} (hK : X.K = W.K) (he : DE W X E o fo) (cl : Cls W.K (W.cls c)) (hm : Meth W.K (W.cls c) m f) (F : FnOk X.prog X.w W.K X.mg X.base CX k f fd ps (spD W n g)) (hr : Room j X.A) (hj : k ≤ j) (hb : Binds W.K fd ps []) (hx : Passes CX X E) (ha : DA W X E (e :: es) ga)
    (hst : starEach (e :: es) X.env = (false, eval e X.env) :: starEach es X.env := by rfl) (hpl : (backTo pos (starEach es X.env)).any (·.1) = false := by rfl)
    (ht : eval (.Call (.Attribute o m apos) (e :: es) [] pos) X.env = (do
      let ov ← eval o X.env
      standAt apos.atName
      let (f, first) ← holding [ov] (getMethod ov m pl)
      callWith pos f first (backTo pos (starEach (e :: es) X.env)) (backToKw pos (keywordEach [] X.env))) := by rfl) :
    DE W X E (.Call (.Attribute o m apos) (e :: es) [] pos) (eMeth c m n g fo ga) := by
  obtain ⟨to, po, qo⟩ := he.ex
  obtain ⟨ta, pa, qa⟩ := ha.ex
  exact .mk (pe_meth (pl := pl) (C := W.cls c) (sp := spD W n g) po (by rw [hK]; exact cl) (by rw [hK]; exact hm) (by rw [hK]; exact F) (hr.mono hj) (by rw [hK]; exact hb) .nil hx pa hst hpl ht) fun Rs F H r sg env st Q hH hE hP => meth_post qo qa hH hE hP
theorem de_meth0 {o : Expr} {fo : EV} {c : Nat} {m : Str} {pl : Sem Bool} (hK : X.K = W.K) (he : DE W X E o fo) (cl : Cls W.K (W.cls c)) (hm : Meth W.K (W.cls c) m f) (F : FnOk X.prog X.w W.K X.mg X.base CX k f fd ps (spD W n g)) (hr : Room j X.A) (hj : k ≤ j) (hb : Binds W.K fd ps []) (hx : Passes CX X E)
    (h : ∀ {to : TE}, PE X o to → PE X (.Call (.Attribute o m apos) [] [] pos) (tMeth (W.cls c) m (spD W n g) [] E to tNil)) :
    DE W X E (.Call (.Attribute o m apos) [] [] pos) (eMeth c m n g fo aNil) := by
  obtain ⟨to, po, qo⟩ := he.ex
  exact .mk (h po) fun Rs F H r sg env st Q hH hE hP => meth_post (ga := aNil) qo (fun Rs F H r sg env st Q hH hE hP => hP F H r [] (Same.refl _) (Ext.refl _) hH .nil) hH hE hP
theorem Holds.waste {Rs F H : Hp} {r : List Addr} {st : Store} {q : Addr} {o : HO} (h : Holds W Rs F H r st) (e : H q = none) : Holds W Rs F (upd H q o) r st := by
  refine ⟨fun c u z => ?_, fun c u z => ?_, h.dj, h.len, h.nd, h.own, fun i a b e1 e2 => ?_, ⟨fun t ht => ?_, h.tb.nF, h.tb.nR⟩, h.kn⟩
  · rw [upd_ne (ne_of_none z (h.freeF e))]; exact h.sF _ _ z
  · rw [upd_ne (ne_of_none z (h.freeR e))]; exact h.sR _ _ z
  · have hc : a ≠ q := fun z => h.notin e (z ▸ List.mem_of_getElem? e1)
    exact (h.ob i a b e1 e2).mono (Same.refl _) (Ext.refl _) (upd_ne hc) (h.upN e)
  · obtain ⟨t1, t2, t3, t4⟩ := h.tb.at_ t ht
    exact ⟨t1.ext fun b u z => by rw [upd_ne (ne_of_none z e)]; exact z, t2, t3, t4⟩
/-- C(..) -/
def eMake (c : Nat) (n : Nat) (g : FV) (ga : AV) : EV := fun env st => (ga env st).bind fun a => if a.1.length + 1 = n then (g (.ref a.2.length :: a.1) (a.2 ++ [.ins c []])).bind fun b => match b.1 with
  | .non => .ok (.ref a.2.length, b.2)
  | _ => .bad else .bad
theorem make_post {c : Nat} {ta : TA}
    (qa : ∀ Rs F H r sg env st Q, Holds W Rs F H r st → EnvOk F r sg env → PostA W Rs F r (ga env st) Q E → ta sg H Q)
    {Rs F H r sg env st Q} (hH : Holds W Rs F H r st) (hE : EnvOk F r sg env) (hP : Post W Rs F r (eMake c n g ga env st) Q E) : tMake (W.cls c) (spD W n g) [] E ta sg H Q := by
  refine qa Rs F H r sg env st _ hH hE (bindX hP fun a ea z F1 H1 r1 vs s1 x1 h1 k1 => ?_)
  intro x dx hx hdx hne
  by_cases hl : a.1.length + 1 = n
  · rw [if_pos hl] at z
    have hx' : upd H1 dx (.own x) x = none := by rw [upd_ne (Ne.symm hne)]; exact hx
    have h2 := (h1.waste (o := .own x) hdx).fresh (o := .ins (W.cls c) dx []) (b := .ins c []) hx' ⟨dx, [], upd_same, trivial⟩
    have e1 : (r1 ++ [x])[a.2.length]? = some x := by rw [← h1.len, List.getElem?_append_right (Nat.le_refl _)]; simp
    refine ⟨Rs, F1, r1 ++ [x], a.2 ++ [.ins c []], .ref a.2.length :: a.1, h2, by rw [List.append_nil]; exact .cons (.ref e1) (k1.mono (Same.refl _) (Ext.snoc _ _)), hl, ?_⟩
    have z1 := Post.later s1 (x1.trans (Ext.snoc r1 x)) z
    refine bindX z1 fun b eb z2 F2 H2 r2 v2 s2 x2 h2 k2 => ?_
    obtain ⟨d, st2⟩ := b
    cases d with
    | non => cases k2; exact ⟨rfl, z2 F2 H2 r2 _ s2 x2 h2 (.ref (x2 _ _ e1))⟩
    | _ => exact z2.elim
  · rw [if_neg hl] at z; exact z.elim
theorem de_make {c : Nat} (hK : X.K = W.K) (M : Mk W.K (W.cls c) f) (F : FnOk X.prog X.w W.K X.mg X.base CX k f fd ps (spD W n g)) (hr : Room (j + 1) X.A) (hj : k ≤ j) (hg : Gl X x) (hm : X.mg x = some (.ref (W.cls c))) (hb : Binds W.K fd ps []) (hx : Passes CX X E)
    (ha : DA W X E (e :: es) ga) (hdb : (x == ("__debug__" : Str)) = false := by decide) (he : starEach (e :: es) X.env = (false, eval e X.env) :: starEach es X.env := by rfl) (hpl : (backTo pos (starEach es X.env)).any (·.1) = false := by rfl) :
    DE W X E (.Call (.Name x p) (e :: es) [] pos) (eMake c n g ga) := by
  obtain ⟨ta, pa, qa⟩ := ha.ex
  exact .mk (pe_make (C := W.cls c) (sp := spD W n g) (by rw [hK]; exact M) (by rw [hK]; exact F) (hr.mono (by omega)) hg hm (by rw [hK]; exact hb) .nil hx pa hdb he hpl) fun Rs F H r sg env st Q hH hE hP => make_post qa hH hE hP
end
def eFld (c : Nat) (f : Str) (fo : EV) : EV := fun env st => (fo env st).bind fun o => match o.1 with
  | .ref i => match o.2[i]? with
    | some (.ins c' fs) => if c' = c then (match fs.lookup f with
      | some d => .ok (d, o.2)
      | none => .bad) else .bad
    | _ => .bad
  | _ => .bad
theorem de_fld {o : Expr} {fo : EV} {c : Nat} {f : Str} {pos : Pos} (hK : X.K = W.K) (he : DE W X E o fo) (cl : Cls W.K (W.cls c)) (na : NoAttr W.K (W.cls c) f) (hb : attributeBase o f X.env (eval o X.env) = eval o X.env := by rfl) : DE W X E (.Attribute o f pos) (eFld c f fo) := by
  obtain ⟨to, po, qo⟩ := he.ex
  refine .mk (pe_fld po hb) fun Rs F H r sg env st Q hH hE hP => ?_
  refine qo Rs F H r sg env st _ hH hE (bindX hP fun o eo z F1 H1 r1 v1 s1 x1 h1 k1 => ?_)
  obtain ⟨d, st1⟩ := o
  cases k1 with
  | @ref a i e =>
    simp only at z
    split at z
    · rename_i c' fs e1
      split at z
      · rename_i hc
        subst hc
        split at z
        · rename_i d e3
          obtain ⟨dx, vfs, e2, k2⟩ := h1.ob i a _ e e1
          obtain ⟨v, e4, k4⟩ := k2.look e3
          rw [hK]
          exact ⟨a, _, dx, vfs, v, rfl, e2, cl, na, e4, z F1 H1 r1 v s1 x1 h1 k4⟩
        · exact z.elim
      · exact z.elim
    · exact z.elim
  | _ => exact z.elim
def sFldD (c : Nat) (f : Str) (fo fv : EV) : SV := fun env st => sOf (fv env st) fun v => sOf (fo env v.2) fun o => match o.1 with
  | .ref i => match o.2[i]? with
    | some (.ins c' fs) => if c' = c ∧ fs.length < 900 then .nx env (o.2.set i (.ins c' (putD f v.1 fs))) else .bad
    | _ => .bad
  | _ => .bad
theorem ds_fld {o value : Expr} {fo fv : EV} {c : Nat} {f : Str} {pos pos' : Pos} (hK : X.K = W.K) (he : DE W X E o fo) (hv : DE W X E value fv) (cl : Cls W.K (W.cls c)) (na : NoAttr W.K (W.cls c) f) (hs : swapsWith value (some (.Attribute o f pos')) pos.line X.env = pure false := by rfl) :
    DS W X E (.Assign [.Attribute o f pos'] value pos) (sFldD c f fo fv) := by
  obtain ⟨to, po, qo⟩ := he.ex
  obtain ⟨tv, pv, qv⟩ := hv.ex
  refine .mk (ps_fld po pv hs) fun Rs F H r sg env st D hH hE hP => ?_
  refine qv Rs F H r sg env st _ hH hE (bindS hP fun b eb zb F0 H0 r0 v0 s0 x0 h0 k0 => ?_)
  refine qo Rs F0 H0 r0 sg env b.2 _ h0 (hE.mono s0 x0) (bindS (PostS.later s0 x0 zb) fun o eo z F1 H1 r1 v1 s1 x1 h1 k1 => ?_)
  obtain ⟨d, st1⟩ := o
  cases k1 with
  | @ref a i e =>
    simp only at z
    split at z
    · rename_i c' fs e1
      split at z
      · rename_i hc
        obtain ⟨rfl, hl⟩ := hc
        obtain ⟨dx, vfs, e2, k2⟩ := h1.ob i a _ e e1
        rw [hK]
        refine ⟨a, _, dx, vfs, rfl, e2, cl, na, by rw [k2.length]; omega, ?_⟩
        exact z F1 _ r1 sg s1 x1 (h1.write e ⟨dx, _, upd_same, Flds.put (k0.mono s1 x1) k2⟩) (hE.mono (s0.trans s1) (x0.trans x1))
      · exact z.elim
    · exact z.elim
  | _ => exact z.elim
end
end Dl
namespace Dl
open PySem L2
section
variable {W : Wd} {X : Cx} {E : XK}
def ixG : G2 := fun st d e => match d, e with
  | .tup ds, .int i => R.of ((atI ds i).map fun x => (x, st))
  | .str s, .int i => R.of ((atI s i).map fun c => (.str [c], st))
  | d, .int i => match lstOf st d with
    | some ds => R.of ((atI ds i).map fun x => (x, st))
    | none => .bad
  | _, _ => .bad
theorem Reps.atI {F : Hp} {r : List Addr} {vs : List V} {ds : List D} {i : Int} {d : D} (h : Reps F r vs ds) (e : L2.atI ds i = some d) : ∃ v, L2.atI vs i = some v ∧ Rep F r v d := by
  unfold L2.atI at e ⊢
  rw [h.length]
  cases q : ixN ds.length i with
  | none => rw [q] at e; cases e
  | some j => rw [q] at e; exact h.get e
theorem de_ix {a b : Expr} {fa fb : EV} {pos : Pos} (hK : X.K = W.K) (ha : DE W X E a fa) (hb : DE W X E b fb) (hs : PlainIx b) : DE W X E (.Subscript a b pos) (eOp ixG fa fb) := by
  obtain ⟨ta, pa, qa⟩ := ha.ex
  obtain ⟨tb, pb, qb⟩ := hb.ex
  refine .mk (pe_ix ix_seq pa pb hs) fun Rs F H rr sg env st Q hH hE hP => eOp_post qa qb ?_ hH hE hP
  intro Rs F H rr st x y dx dy Q E h kx ky hP
  have lists : ∀ i, y = .int i → (match lstOf st dx with
    | some ds => R.of ((atI ds i).map fun x => (x, st))
    | none => (.bad : R (D × Store))) = ixG st dx dy → rIxL X.K x y H Q := fun i ey eq => by
    rw [← eq] at hP
    split at hP
    · rename_i ds e1
      obtain ⟨p, vs, rfl, h1, k1⟩ := lstOf_ok h kx e1
      cases e2 : atI ds i with
      | none => rw [e2] at hP; exact hP.elim
      | some d =>
        rw [e2] at hP
        obtain ⟨v, e3, k⟩ := k1.atI e2
        exact ⟨p, vs, i, v, rfl, ey, .of h1, e3, onE_here h k hP⟩
    · exact hP.elim
  cases ky with
  | int i =>
    cases kx with
    | @tup p vs ds q k1 =>
      unfold ixG at hP
      simp only at hP
      cases e2 : atI ds i with
      | none => rw [e2] at hP; exact hP.elim
      | some d =>
        rw [e2] at hP
        obtain ⟨v, e3, k⟩ := k1.atI e2
        exact .inr (.inl ⟨p, vs, i, v, rfl, rfl, .of (h.sF _ _ q), e3, onE_here h k hP⟩)
    | str s hs hl =>
      unfold ixG at hP
      simp only at hP
      cases e2 : atI s i with
      | none => rw [e2] at hP; exact hP.elim
      | some c =>
        rw [e2] at hP
        have hc : c < 128 := by
          obtain ⟨j, _, e3, _⟩ := atI_get e2
          exact of_decide_eq_true (List.all_eq_true.mp hs c (List.mem_of_getElem? e3))
        exact .inr (.inr ⟨_, i, c, rfl, rfl, by rw [len_mk]; exact lim_line hl, e2, onE_here h (.str [c] (by simp [hc]) (by simp [LIM])) hP⟩)
    | non => exact .inl (lists _ rfl rfl)
    | bl b => exact .inl (lists _ rfl rfl)
    | int b => exact .inl (lists _ rfl rfl)
    | lst q k => exact .inl (lists _ rfl rfl)
    | ref q => exact .inl (lists _ rfl rfl)
    | scr q => exact .inl (lists _ rfl rfl)
    | exn0 => exact .inl (lists _ rfl rfl)
    | exn1 q => exact .inl (lists _ rfl rfl)
  | _ => cases kx <;> exact hP.elim
/-- a part of a slice -/
def poNone : Env → Store → R (Option Int × Store) := fun _ st => .ok (none, st)
def poSome (f : EV) : Env → Store → R (Option Int × Store) := fun env st => (f env st).bind fun a => match a.1 with
  | .int i => .ok (some i, a.2)
  | _ => .bad
def DP (W : Wd) (X : Cx) (E : XK) (e : Option Expr) (f : Env → Store → R (Option Int × Store)) : Prop := ∃ t, PO X e t ∧ ∀ Rs F H r sg env st (Q : Option Int → Hp → Prop), Holds W Rs F H r st → EnvOk F r sg env →
  PostX W Rs F r (f env st) (fun a => ∀ F' H' r', Same F F' → Ext r r' → Holds W Rs F' H' r' a.2 → Q a.1 H') E → t sg H Q
theorem dp_none : DP W X E none poNone := ⟨_, po_none, fun Rs F H r sg env st Q hH hE hP => hP F H r (Same.refl _) (Ext.refl _) hH⟩
theorem dp_some {e : Expr} {f : EV} (h : DE W X E e f) : DP W X E (some e) (poSome f) := by
  obtain ⟨t, p, q⟩ := h.ex
  refine ⟨_, po_some p, fun Rs F H r sg env st Q hH hE hP => ?_⟩
  refine q Rs F H r sg env st _ hH hE (bindX hP fun a ea z F1 H1 r1 v1 s1 x1 h1 k1 => ?_)
  obtain ⟨d, st1⟩ := a
  cases k1 with
  | int i => exact ⟨i, rfl, z F1 H1 r1 s1 x1 h1⟩
  | _ => exact z.elim
/-- what xs[lo:hi] is -/
def cutD {A : Type} (xs : List A) (lo hi : Option Int) : List A := (xs.drop (HT.sIx xs.length 0 lo)).take (HT.sIx xs.length xs.length hi - HT.sIx xs.length 0 lo)
theorem cutD_le {A : Type} (xs : List A) (lo hi : Option Int) : (cutD xs lo hi).length ≤ xs.length := by
  unfold cutD
  rw [List.length_take, List.length_drop]
  omega
theorem Reps.cut {F : Hp} {r : List Addr} {vs : List V} {ds : List D} (h : Reps F r vs ds) (lo hi : Option Int) : Reps F r (cutV vs lo hi) (cutD ds lo hi) := by
  unfold cutV cutD
  rw [h.length]
  exact (h.drop _).take _
def slG (m : Bool) (st : Store) (d : D) (lo hi : Option Int) : R (D × Store) := match d with
  | .tup ds => .ok (.tup (cutD ds lo hi), st)
  | .str s => .ok (.str (cutD s lo hi), st)
  | d => match lstOf st d with
    | some ds => newL m (cutD ds lo hi) st
    | none => .bad
def eSl (m : Bool) (f : EV) (l h : Env → Store → R (Option Int × Store)) : EV := fun env st => (f env st).bind fun a => (l env a.2).bind fun b => (h env b.2).bind fun c => slG m c.2 a.1 b.1 c.1
theorem cutS_mk (s : List Nat) (lo hi : Option Int) : cutS ⟨s.toArray⟩ lo hi = ⟨(cutD s lo hi).toArray⟩ := by
  unfold cutS cutD
  simp [Str.length]
theorem cut_whole {A : Type} (xs : List A) (lo hi : Option Int) (h : HT.sIx xs.length 0 lo = 0 ∧ HT.sIx xs.length xs.length hi = xs.length) : cutD xs lo hi = xs := by
  unfold cutD
  rw [h.1, h.2]
  simp
theorem de_sl (m : Bool) {e : Expr} {lo hi : Option Expr} {f : EV} {l h : Env → Store → R (Option Int × Store)} {p2 pos : Pos} (hK : X.K = W.K) (he : DE W X E e f) (hl : DP W X E lo l) (hu : DP W X E hi h) : DE W X E (.Subscript e (.Slice lo hi none p2) pos) (eSl m f l h) := by
  obtain ⟨t, p, q⟩ := he.ex
  obtain ⟨tl, pl, ql⟩ := hl
  obtain ⟨tu, pu, qu⟩ := hu
  refine .mk (pe_slice (sl_tupA.or (sl_str.or sl_list)) p pl pu) fun Rs F H rr sg env st Q hH hE hP => ?_
  refine q Rs F H rr sg env st _ hH hE (bindX hP fun a ea z F1 H1 r1 v1 s1 x1 h1 k1 => ?_)
  refine ql Rs F1 H1 r1 sg env a.2 _ h1 (hE.mono s1 x1) (bindX (Post.later s1 x1 (res := (l env a.2).bind _) z) fun b eb z2 F2 H2 r2 s2 x2 h2 => ?_)
  refine qu Rs F2 H2 r2 sg env b.2 _ h2 (hE.mono (s1.trans s2) (x1.trans x2)) (bindX (Post.later s2 x2 (res := (h env b.2).bind _) z2) fun c ec z3 F3 H3 r3 s3 x3 h3 => ?_)
  replace z3 := Post.later s3 x3 z3
  replace k1 := k1.mono (s2.trans s3) (x2.trans x3)
  have lists : (match lstOf c.2 a.1 with
    | some ds => newL m (cutD ds b.1 c.1) c.2
    | none => (.bad : R (D × Store))) = slG m c.2 a.1 b.1 c.1 → rSlL X.K v1 b.1 c.1 H3 Q := fun eq => by
    rw [← eq] at z3
    split at z3
    · rename_i ds e1
      obtain ⟨p, vs, rfl, h4, k4⟩ := lstOf_ok h3 k1 e1
      exact ⟨p, vs, rfl, .of h4, fun pp hp => newL_post h3 (k4.cut _ _) z3 hp⟩
    · exact z3.elim
  obtain ⟨d, st1⟩ := a
  cases k1 with
  | @tup p vs ds q1 k1 =>
    refine .inl ⟨p, vs, rfl, .of (h3.sF _ _ q1), fun hw => ?_, fun _ pp hp => ?_⟩
    · have e : cutD ds b.1 c.1 = ds := cut_whole ds _ _ (by rw [← k1.length]; exact hw)
      refine onE_here h3 (.tup q1 k1) ?_
      have z4 : onE W Rs F3 r3 Q (.tup (cutD ds b.1 c.1), c.2) := z3
      rw [e] at z4; exact z4
    · exact tup_post h3 (k1.cut _ _) z3 hp
  | str s hs hl =>
    refine .inr (.inl ⟨_, rfl, by rw [len_mk]; exact lim_line hl, ?_⟩)
    rw [cutS_mk]
    refine onE_here h3 (.str _ ?_ (Nat.le_trans (cutD_le _ _ _) hl)) z3
    rw [List.all_eq_true] at hs ⊢
    intro x hx
    exact hs x (List.mem_of_mem_drop (List.mem_of_mem_take hx))
  | non => exact .inr (.inr (lists rfl))
  | bl b => exact .inr (.inr (lists rfl))
  | int b => exact .inr (.inr (lists rfl))
  | lst q k => exact .inr (.inr (lists rfl))
  | ref q => exact .inr (.inr (lists rfl))
  | scr q => exact .inr (.inr (lists rfl))
  | exn0 => exact .inr (.inr (lists rfl))
  | exn1 q => exact .inr (.inr (lists rfl))
/-- xs[::-1] of a list -/
def eRevL (m : Bool) (f : EV) : EV := fun env st => (f env st).bind fun a => match lstOf a.2 a.1 with
  | some ds => newL m ds.reverse a.2
  | none => .bad
abbrev GA := Store → List D → R (D × Store)
def DC (W : Wd) (X : Cx) (v : Value) (g : GA) : Prop := ∃ r, CallR X v r ∧ ∀ Rs F H rr st vs ds Q E, Holds W Rs F H rr st → Reps F rr vs ds → Post W Rs F rr (g st ds) Q E → r vs H Q
def eB (g : GA) (ga : AV) : EV := fun env st => (ga env st).bind fun a => g a.2 a.1
section
variable {x : Str} {e : Expr} {es : List Expr} {p pos : Pos} {ga : AV} {g : GA} {id T : String}
theorem de_callB (hc : DC W X (.builtin id) g) (hg : Gl X x) (hm : X.mg x = none) (hv : bootBuiltins x = some (.builtin id)) (ha : DA W X E (e :: es) ga) (h : ∀ {r : List V → Hp → VK → Prop} {t : TA}, CallR X (.builtin id) r → PA X (e :: es) t → PE X (.Call (.Name x p) (e :: es) [] pos) (tCB r t)) :
    DE W X E (.Call (.Name x p) (e :: es) [] pos) (eB g ga) := by
  obtain ⟨r, hr, qr⟩ := hc
  obtain ⟨t, pa, q⟩ := ha.ex
  refine .mk (h hr pa) fun Rs F H rr sg env st Q hH hE hP => ?_
  exact q Rs F H rr sg env st _ hH hE (bindX hP fun a ea z F1 H1 r1 vs s1 x1 h1 k1 => qr Rs F1 H1 r1 a.2 vs a.1 Q E h1 k1 (Post.later s1 x1 z))
theorem de_callTy (hc : DC W X (.type T) g) (hg : Gl X x) (hm : X.mg x = none) (hv : bootBuiltins x = some (.type T)) (ha : DA W X E (e :: es) ga) (h : ∀ {r : List V → Hp → VK → Prop} {t : TA}, CallR X (.type T) r → PA X (e :: es) t → PE X (.Call (.Name x p) (e :: es) [] pos) (tCB r t)) :
    DE W X E (.Call (.Name x p) (e :: es) [] pos) (eB g ga) := by
  obtain ⟨r, hr, qr⟩ := hc
  obtain ⟨t, pa, q⟩ := ha.ex
  refine .mk (h hr pa) fun Rs F H rr sg env st Q hH hE hP => ?_
  exact q Rs F H rr sg env st _ hH hE (bindX hP fun a ea z F1 H1 r1 vs s1 x1 h1 k1 => qr Rs F1 H1 r1 a.2 vs a.1 Q E h1 k1 (Post.later s1 x1 z))
end
def lenG : GA := fun st ds => match ds with
  | [.str s] => .ok (.int s.length, st)
  | [.tup ds] => .ok (.int ds.length, st)
  | [.scr ns] => .ok (.int ns.length, st)
  | [d] => match lstOf st d with
    | some ds => .ok (.int ds.length, st)
    | none => .bad
  | _ => .bad
theorem dc_len : DC W X (.builtin "len") lenG := ⟨_, call_len, fun Rs F H rr st vs ds Q E h k hP => by
  match vs, ds, k with
  | [v], [d], .cons k .nil =>
    have lists : (match lstOf st d with
      | some ds => .ok (.int ds.length, st)
      | none => (.bad : R (D × Store))) = lenG st [d] → LenV X.K v H (match lstOf st d with | some ds => ds.length | none => 0) ∧ Q (.int (match lstOf st d with | some ds => (ds.length : Nat) | none => 0 : Nat)) H := fun eq => by
      rw [← eq] at hP
      split at hP
      · rename_i ds e1
        obtain ⟨p, vs, rfl, h1, k1⟩ := lstOf_ok h k e1
        exact ⟨.inl ⟨vs, .of h1, k1.length.symm⟩, onE_here h (.int _) hP⟩
      · exact hP.elim
    cases k with
    | str s hs hl => exact ⟨_, _, rfl, ⟨by rw [len_mk]; exact lim_line hl, (len_mk s).symm⟩, onE_here h (.int _) hP⟩
    | tup q k1 => exact ⟨_, _, rfl, .inr ⟨_, .of (h.sF _ _ q), k1.length.symm⟩, onE_here h (.int _) hP⟩
    | @scr a ns q => exact ⟨_, ns.length, rfl, .inl ⟨_, q.sq h.sF, by simp⟩, onE_here h (.int _) hP⟩
    | non => exact ⟨_, _, rfl, lists rfl⟩
    | bl b => exact ⟨_, _, rfl, lists rfl⟩
    | int b => exact ⟨_, _, rfl, lists rfl⟩
    | lst q k => exact ⟨_, _, rfl, lists rfl⟩
    | ref q => exact ⟨_, _, rfl, lists rfl⟩
    | exn0 => exact ⟨_, _, rfl, lists rfl⟩
    | exn1 q => exact ⟨_, _, rfl, lists rfl⟩
  | [], [], _ => exact hP.elim
  | _ :: _ :: _, d :: e :: _, _ => cases d <;> exact hP.elim⟩
/-- all ints -/
def intsOf : List D → Option (List Int)
  | [] => some []
  | .int i :: r => match intsOf r with
    | some l => some (i :: l)
    | none => none
  | _ => none
theorem intsOf_ok {F : Hp} {r : List Addr} : ∀ {ds : List D} {vs : List V} {ns : List Int}, Reps F r vs ds → intsOf ds = some ns → vs = ns.map V.int
  | [], _, _, .nil, e => by cases e; rfl
  | .int i :: ds, _, ns, .cons (.int _) k, e => by
    unfold intsOf at e
    cases q : intsOf ds with
    | none => rw [q] at e; cases e
    | some l =>
      rw [q] at e
      cases e
      rw [intsOf_ok k q]; rfl
  | .non :: _, _, _, _, e => by cases e
  | .bl _ :: _, _, _, _, e => by cases e
  | .str _ :: _, _, _, _, e => by cases e
  | .tup _ :: _, _, _, _, e => by cases e
  | .lst _ :: _, _, _, _, e => by cases e
  | .ref _ :: _, _, _, _, e => by cases e
  | .scr _ :: _, _, _, _, e => by cases e
  | .exn _ _ :: _, _, _, _, e => by cases e
@[simp] theorem intsOf_map (ns : List Int) : intsOf (ns.map D.int) = some ns := by
  induction ns with
  | nil => rfl
  | cons n ns ih => simp [intsOf, ih]
/-- the greatest, the least of some -/
def maxL : List Int → Int
  | [] => 0
  | [a] => a
  | a :: b :: r => max a (maxL (b :: r))
def minL : List Int → Int
  | [] => 0
  | [a] => a
  | a :: b :: r => min a (minL (b :: r))
theorem maxL_mem : ∀ {l : List Int}, l ≠ [] → maxL l ∈ l ∧ ∀ y ∈ l, y ≤ maxL l
  | [], h => absurd rfl h
  | [a], _ => by simp [maxL]
  | a :: b :: r, _ => by
    obtain ⟨h1, h2⟩ := maxL_mem (l := b :: r) (by simp)
    unfold maxL
    refine ⟨?_, fun y hy => ?_⟩
    · by_cases e : a ≤ maxL (b :: r)
      · rw [Int.max_eq_right e]; exact List.mem_cons_of_mem _ h1
      · rw [Int.max_eq_left (by omega)]; exact List.mem_cons_self
    · rcases List.mem_cons.mp hy with rfl | hy
      · omega
      · have := h2 y hy
        omega
theorem minL_mem : ∀ {l : List Int}, l ≠ [] → minL l ∈ l ∧ ∀ y ∈ l, minL l ≤ y
  | [], h => absurd rfl h
  | [a], _ => by simp [minL]
  | a :: b :: r, _ => by
    obtain ⟨h1, h2⟩ := minL_mem (l := b :: r) (by simp)
    unfold minL
    refine ⟨?_, fun y hy => ?_⟩
    · by_cases e : a ≤ minL (b :: r)
      · rw [Int.min_eq_left e]; exact List.mem_cons_self
      · rw [Int.min_eq_right (by omega)]; exact List.mem_cons_of_mem _ h1
    · rcases List.mem_cons.mp hy with rfl | hy
      · omega
      · have := h2 y hy
        omega
def maxG : GA := fun st ds => match ds with
  | [.int i, .int j] => .ok (.int (max i j), st)
  | [d] => match (lstOf st d).bind intsOf with
    | some ns => if ns ≠ [] then .ok (.int (maxL ns), st) else .bad
    | none => .bad
  | _ => .bad
def minG : GA := fun st ds => match ds with
  | [.int i, .int j] => .ok (.int (min i j), st)
  | [d] => match (lstOf st d).bind intsOf with
    | some ns => if ns ≠ [] then .ok (.int (minL ns), st) else .bad
    | none => .bad
  | _ => .bad
theorem dc_max (hc : X.calm = true) : DC W X (.builtin "max") maxG := ⟨_, (call_max2 hc).or (cr_max hc), fun Rs F H rr st vs ds Q E h k hP => by
  unfold maxG at hP
  split at hP
  · rename_i i j
    match k with
    | .cons (.int _) (.cons (.int _) .nil) =>
      refine .inl ⟨i, j, rfl, ?_⟩
      have e : (if j > i then j else i) = max i j := by split <;> omega
      rw [e]
      exact onE_here h (.int _) hP
  · rename_i d
    match k with
    | .cons k .nil =>
      cases e1 : lstOf st d with
      | none => rw [e1] at hP; exact hP.elim
      | some ds =>
        rw [e1] at hP
        simp only [Option.bind_some] at hP
        split at hP
        · rename_i ns e2
          split at hP
          · rename_i hne
            obtain ⟨p, vs, rfl, h1, k1⟩ := lstOf_ok h k e1
            have ev := intsOf_ok k1 e2
            subst ev
            refine .inr ⟨p, ns, rfl, .of h1, List.length_pos_iff.mpr hne, fun m hm hmax => ?_⟩
            obtain ⟨m1, m2⟩ := maxL_mem hne
            have : m = maxL ns := by
              have a := m2 m hm
              have b := hmax _ m1
              omega
            rw [this]
            exact onE_here h (.int _) hP
          · exact hP.elim
        · exact hP.elim
  · exact hP.elim⟩
theorem dc_min (hc : X.calm = true) : DC W X (.builtin "min") minG := ⟨_, (call_min2 hc).or (cr_min hc), fun Rs F H rr st vs ds Q E h k hP => by
  unfold minG at hP
  split at hP
  · rename_i i j
    match k with
    | .cons (.int _) (.cons (.int _) .nil) =>
      refine .inl ⟨i, j, rfl, ?_⟩
      have e : (if j < i then j else i) = min i j := by split <;> omega
      rw [e]
      exact onE_here h (.int _) hP
  · rename_i d
    match k with
    | .cons k .nil =>
      cases e1 : lstOf st d with
      | none => rw [e1] at hP; exact hP.elim
      | some ds =>
        rw [e1] at hP
        simp only [Option.bind_some] at hP
        split at hP
        · rename_i ns e2
          split at hP
          · rename_i hne
            obtain ⟨p, vs, rfl, h1, k1⟩ := lstOf_ok h k e1
            have ev := intsOf_ok k1 e2
            subst ev
            refine .inr ⟨p, ns, rfl, .of h1, List.length_pos_iff.mpr hne, fun m hm hmin => ?_⟩
            obtain ⟨m1, m2⟩ := minL_mem hne
            have : m = minL ns := by
              have a := m2 m hm
              have b := hmin _ m1
              omega
            rw [this]
            exact onE_here h (.int _) hP
          · exact hP.elim
        · exact hP.elim
  · exact hP.elim⟩
def intG : GA := fun st ds => match ds with
  | [.int i] => .ok (.int i, st)
  | [.bl b] => .ok (.int (if b then 1 else 0), st)
  | _ => .bad
theorem dc_int : DC W X (.type "int") intG := ⟨_, call_int1, fun Rs F H rr st vs ds Q E h k hP => by
  unfold intG at hP
  split at hP
  · match k with
    | .cons (.int i) .nil => exact .inl ⟨i, rfl, onE_here h (.int _) hP⟩
  · match k with
    | .cons (.bl b) .nil => exact .inr ⟨b, rfl, onE_here h (.int _) hP⟩
  · exact hP.elim⟩
/-- the digits of a number -/
def strG : GA := fun st ds => match ds with
  | [.int i] => if 0 ≤ i ∧ i < 10 ^ 18 then .ok (.str (TL.numL i.toNat), st) else .bad
  | _ => .bad
theorem numL_ascii (n : Nat) : (TL.numL n).all (fun c => decide (c < 128)) = true := by
  rw [List.all_eq_true]
  intro c hc
  have := TL.numL_digits n
  have h : ¬ (c < 48 ∨ 57 < c) := fun z => TL.numL_free (n := n) z hc
  simp only [decide_eq_true_eq]
  omega
theorem dc_str : DC W X (.type "str") strG := ⟨_, call_str_int, fun Rs F H rr st vs ds Q E h k hP => by
  unfold strG at hP
  split at hP
  · split at hP
    · rename_i i hi
      match k with
      | .cons (.int i) .nil =>
        refine ⟨i, rfl, ?_, ?_⟩
        · have : i.natAbs < 2 ^ 64 := by omega
          exact Nat.lt_trans (PySem.Flt.log2_lt_of (by decide) this) (by decide)
        · have e : TL.tl (Str.ofString (toString i)) = TL.numL i.toNat := by
            have := TL.tl_num i.toNat
            rw [Int.toNat_of_nonneg hi.1] at this
            exact this
          refine onE_here h ?_ hP
          refine rep_str e ?_ F rr
          rw [numL_ascii]
          have := TL.numL_len (n := i.toNat) (k := 18) (by decide) (by omega)
          rw [Bool.true_and, decide_eq_true_eq]; exact Nat.le_trans this (by decide)
    · exact hP.elim
  · exact hP.elim⟩
def ordG : GA := fun st ds => match ds with
  | [.str [c]] => .ok (.int c, st)
  | _ => .bad
theorem dc_ord : DC W X (.builtin "ord") ordG := ⟨_, call_ord, fun Rs F H rr st vs ds Q E h k hP => by
  unfold ordG at hP
  split at hP
  · cases k with
    | cons k k2 =>
      cases k2
      cases k
      exact ⟨_, rfl, rfl, onE_here h (.int _) hP⟩
  · exact hP.elim⟩
def listG (m : Bool) : GA := fun st ds => match ds with
  | [.tup ds] => newL m ds st
  | [.scr ns] => newL m (ns.map .int) st
  | [d] => match lstOf st d with
    | some ds => newL m ds st
    | none => .bad
  | _ => .bad
theorem dc_list (m : Bool) : DC W X (.type "list") (listG m) := ⟨_, call_list_of, fun Rs F H rr st vs ds Q E h k hP => by
  unfold listG at hP
  split at hP
  · match k with
    | .cons (.tup q k) .nil => exact ⟨_, _, rfl, .inr (.of (h.sF _ _ q)), fun l hl => newL_post h k hP hl⟩
  · rename_i ns
    match k with
    | .cons (.scr q) .nil => exact ⟨_, _, rfl, .inl (q.sq h.sF), fun l hl => newL_post h (reps_ints ns) hP hl⟩
  · rename_i d _ _
    match k with
    | .cons k .nil =>
      split at hP
      · rename_i ds e1
        obtain ⟨p, vs, rfl, h1, k1⟩ := lstOf_ok h k e1
        exact ⟨p, vs, rfl, .inl (.of h1), fun l hl => newL_post h k1 hP hl⟩
      · exact hP.elim
  · exact hP.elim⟩
def tupG : GA := fun st ds => match ds with
  | [.tup ds] => .ok (.tup ds, st)
  | [d] => match lstOf st d with
    | some ds => .ok (.tup ds, st)
    | none => .bad
  | _ => .bad
theorem dc_tup : DC W X (.type "tuple") tupG := ⟨_, call_tuple_of, fun Rs F H rr st vs ds Q E h k hP => by
  unfold tupG at hP
  split at hP
  · match k with
    | .cons (.tup q k) .nil => exact ⟨_, _, rfl, .inr ⟨.of (h.sF _ _ q), onE_here h (.tup q k) hP⟩⟩
  · rename_i d _
    match k with
    | .cons k .nil =>
      split at hP
      · rename_i ds e1
        obtain ⟨p, vs, rfl, h1, k1⟩ := lstOf_ok h k e1
        exact ⟨p, vs, rfl, .inl ⟨.of h1, fun l hl => tup_post h k1 hP hl⟩⟩
      · exact hP.elim
  · exact hP.elim⟩
def tyOf (st : Store) : D → Option String
  | .non => some "NoneType"
  | .bl _ => some "bool"
  | .int _ => some "int"
  | .str _ => some "str"
  | .tup _ => some "tuple"
  | .lst _ => some "list"
  | .scr _ => some "list"
  | .exn _ _ => none
  | .ref n => match st[n]? with
    | some (.lst _) => some "list"
    | some (.dK _) => some "dict"
    | some (.dT _) => some "dict"
    | _ => none
theorem tyOf_ok {Rs F H : Hp} {r : List Addr} {st : Store} {v : V} {d : D} {t : String} {K : PySem.W.Frag} (h : Holds W Rs F H r st) (k : Rep F r v d) (e : tyOf st d = some t) : TyX K H v (.type t) := by
  cases k with
  | non => cases e; exact .base .non
  | bl b => cases e; exact .base (.bl b)
  | int b => cases e; exact .base (.int b)
  | str b => cases e; exact .base (.str _)
  | tup q k => cases e; exact .base (.tup (h.sF _ _ q))
  | lst q k => cases e; exact .base (.lst (h.sF _ _ q))
  | scr q =>
    cases e
    rcases q with ⟨o, q⟩ | q
    · exact .base (.frz (h.sF _ _ q))
    · exact .base (.lst (h.sF _ _ q))
  | exn0 => cases e
  | exn1 q => cases e
  | @ref a n q =>
    unfold tyOf at e
    simp only at e
    split at e
    · rename_i e1; cases e; obtain ⟨vs, q1, _⟩ := h.ob n a _ q e1; exact .base (.lst q1)
    · rename_i e1; cases e; obtain ⟨vs, q1, _⟩ := h.ob n a _ q e1; exact .base (.dK q1)
    · rename_i e1; cases e; obtain ⟨vs, q1, _⟩ := h.ob n a _ q e1; exact .base (.dT q1)
    · cases e
/-- whether the class t is T or under it -/
def subTy (t T : String) : Bool := t == T || (t == "bool" && T == "int")
def isG1 (T : String) : GA := fun st ds => match ds with
  | [d] => match tyOf st d with
    | some t => .ok (.bl (subTy t T), st)
    | none => .bad
  | _ => .bad
def eIs (T : String) (f : EV) : EV := fun env st => (f env st).bind fun a => isG1 T a.2 [a.1]
theorem kits {T : String} (hT : T = "int" ∨ T = "bool" ∨ T = "str" ∨ T = "tuple" ∨ T = "list" ∨ T = "dict") {st : Store} {d : D} {t : String} (e : tyOf st d = some t) {K : PySem.W.Frag} : PySem.W.kitOne K (.type t) (.type T) = some (subTy t T) := by
  have ht : t = "NoneType" ∨ t = "bool" ∨ t = "int" ∨ t = "str" ∨ t = "tuple" ∨ t = "list" ∨ t = "dict" := by
    cases d with
    | ref n =>
      unfold tyOf at e
      simp only at e
      split at e <;> cases e <;> simp
    | _ => cases e <;> simp
  refine kit_ty ?_
  rcases hT with rfl | rfl | rfl | rfl | rfl | rfl <;> rcases ht with rfl | rfl | rfl | rfl | rfl | rfl | rfl <;> decide +kernel
theorem de_isinst {x y : Str} {e : Expr} {f : EV} {T : String} {p p2 pos : Pos} (hT : T = "int" ∨ T = "bool" ∨ T = "str" ∨ T = "tuple" ∨ T = "list" ∨ T = "dict") (he : DE W X E e f) (hy : PE X (.Name y p2) (tC (.ty T)))
    (h : ∀ {r : List V → Hp → VK → Prop} {t : TA}, CallR X (.builtin "isinstance") r → PA X [e, .Name y p2] t → PE X (.Call (.Name x p) [e, .Name y p2] [] pos) (tCB r t))
    (h2 : ∀ {te : TE}, PE X e te → PA X [e, .Name y p2] (tCons te (tCons (tC (.ty T)) tNil))) : DE W X E (.Call (.Name x p) [e, .Name y p2] [] pos) (eIs T f) := by
  obtain ⟨t, p, q⟩ := he.ex
  refine .mk (h call_isi (h2 p)) fun Rs F H rr sg env st Q hH hE hP => ?_
  refine q Rs F H rr sg env st _ hH hE (bindX hP fun a ea z F1 H1 r1 v1 s1 x1 h1 k1 => ?_)
  unfold isG1 at z
  simp only at z
  split at z
  · rename_i t e1
    exact ⟨v1, .ty T, .type t, .type T, _, rfl, .ty T, tyOf_ok h1 k1 e1, kits hT e1, z F1 H1 r1 _ s1 x1 h1 (.bl _)⟩
  · exact z.elim
end
end Dl
namespace Dl
open PySem L2
section
variable {W : Wd} {X : Cx} {E : XK}
abbrev GM := Store → D → List D → R (D × Store)
def DM (W : Wd) (X : Cx) (id : String) (g : GM) : Prop := ∃ r, MtR X id r ∧ ∀ Rs F H rr st v d vs ds Q E, Holds W Rs F H rr st → Rep F rr v d → Reps F rr vs ds → Post W Rs F rr (g st d ds) Q E → r v vs H Q
/-- the type at which a method is looked up -/
def tyM (st : Store) : D → Option String
  | .str _ => some "str"
  | .lst _ => some "list"
  | .scr _ => some "list"
  | .ref n => match st[n]? with
    | some (.lst _) => some "list"
    | some (.dK _) => some "dict"
    | some (.dT _) => some "dict"
    | _ => none
  | _ => none
theorem tyM_ok {Rs F H : Hp} {r : List Addr} {st : Store} {v : V} {d : D} {t : String} {K : PySem.W.Frag} (h : Holds W Rs F H r st) (k : Rep F r v d) (e : tyM st d = some t) : tyV K t v H := by
  cases k with
  | str => cases e; rfl
  | lst q k => cases e; exact .inl ⟨rfl, _, .of (h.sF _ _ q)⟩
  | @scr a ns q => cases e; exact .inl ⟨rfl, _, q.sq h.sF⟩
  | @ref a n q =>
    unfold tyM at e
    simp only at e
    split at e
    · rename_i e1; cases e; obtain ⟨vs, q1, _⟩ := h.ob _ a _ q e1; exact .inl ⟨rfl, _, .of q1⟩
    · rename_i e1; cases e; obtain ⟨vs, q1, _⟩ := h.ob _ a _ q e1; exact .inr (.inr (.inl ⟨rfl, .inl ⟨_, q1⟩⟩))
    · rename_i e1; cases e; obtain ⟨vs, q1, _⟩ := h.ob _ a _ q e1; exact .inr (.inr (.inl ⟨rfl, .inr ⟨_, q1⟩⟩))
    · cases e
  | _ => cases e
def eMt (T : String) (g : GM) (fo : EV) (ga : AV) : EV := fun env st => (fo env st).bind fun o => if tyM o.2 o.1 = some T then (ga env o.2).bind fun a => g a.2 o.1 a.1 else .bad
section
variable {o e : Expr} {es : List Expr} {fo : EV} {ga : AV} {name : Str} {apos cpos : Pos} {T id : String} {g : GM}
theorem de_mt (pa : PlainAttrs T) (slot : Slot T name id) (hty : typeOf (.builtin id) = pure (.type "method_descriptor")) (hm : DM W X id g) (ho : DE W X E o fo) (ha : DA W X E (e :: es) ga)
    (h : ∀ {r : V → List V → Hp → VK → Prop} {to : TE} {t : TA}, MtR X id r → PE X o to → PA X (e :: es) t → PE X (.Call (.Attribute o name apos) (e :: es) [] cpos) (tBM X.K T r to t)) :
    DE W X E (.Call (.Attribute o name apos) (e :: es) [] cpos) (eMt T g fo ga) := by
  obtain ⟨r, hr, qr⟩ := hm
  obtain ⟨to, po, qo⟩ := ho.ex
  obtain ⟨t, pa, qa⟩ := ha.ex
  refine .mk (h hr po pa) fun Rs F H rr sg env st Q hH hE hP => ?_
  refine qo Rs F H rr sg env st _ hH hE (bindX hP fun b eb z F1 H1 r1 v1 s1 x1 h1 k1 => ?_)
  split at z
  · rename_i ht
    refine ⟨tyM_ok h1 k1 ht, ?_⟩
    refine qa Rs F1 H1 r1 sg env b.2 _ h1 (hE.mono s1 x1) (bindX (Post.later s1 x1 z) fun c ec z2 F2 H2 r2 vs s2 x2 h2 k2 => ?_)
    exact qr Rs F2 H2 r2 c.2 v1 b.1 vs c.1 Q E h2 (k1.mono s2 x2) k2 (Post.later s2 x2 z2)
  · exact z.elim
end
def appendG : GM := fun st o ds => match o, ds with
  | .ref n, [d] => match st[n]? with
    | some (.lst xs) => if xs.length < LIM then .ok (.non, st.set n (.lst (xs ++ [d]))) else .bad
    | _ => .bad
  | _, _ => .bad
theorem dm_append : DM W X "list.append" appendG := ⟨_, mt_append, fun Rs F H rr st v d vs ds Q E h ko k hP => by
  unfold appendG at hP
  split at hP
  · split at hP
    · rename_i n d xs e1
      split at hP
      · rename_i hl
        cases ko with
        | @ref a n q =>
          match k with
          | .cons k .nil =>
            obtain ⟨ws, q1, k1⟩ := h.ob _ a _ q e1
            exact ⟨a, ws, _, rfl, rfl, q1, by rw [k1.length]; exact lim_lt (Nat.le_of_lt hl), onE_here (h.write (b := .lst _) q ⟨_, upd_same, Reps.snoc k1 k⟩) .non hP⟩
      · exact hP.elim
    · exact hP.elim
  · exact hP.elim⟩
def extendG : GM := fun st o ds => match o, ds with
  | .ref n, [d] => match st[n]?, lstOf st d with
    | some (.lst xs), some zs => if xs.length + zs.length ≤ LIM then .ok (.non, st.set n (.lst (xs ++ zs))) else .bad
    | _, _ => .bad
  | _, _ => .bad
theorem dm_extend : DM W X "list.extend" extendG := ⟨_, mt_extend, fun Rs F H rr st v d vs ds Q E h ko k hP => by
  unfold extendG at hP
  split at hP
  · split at hP
    · rename_i n d _ _ xs zs e1 e2
      split at hP
      · rename_i hl
        cases ko with
        | @ref a n q =>
          match k with
          | .cons k .nil =>
            obtain ⟨ws, q1, k1⟩ := h.ob _ a _ q e1
            obtain ⟨b, us, rfl, q2, k2⟩ := lstOf_ok h k e2
            exact ⟨a, b, ws, us, rfl, rfl, q1, q2, by rw [k1.length, k2.length]; exact lim_line hl, onE_here (h.write (b := .lst _) q ⟨_, upd_same, Reps.append k1 k2⟩) .non hP⟩
      · exact hP.elim
    · exact hP.elim
  · exact hP.elim⟩
def popG : GM := fun st o ds => match o, ds with
  | .ref n, [] => match st[n]? with
    | some (.lst xs) => match xs[xs.length - 1]? with
      | some y => .ok (y, st.set n (.lst xs.dropLast))
      | none => .bad
    | _ => .bad
  | .ref n, [.int i] => match st[n]? with
    | some (.lst xs) => match ixN xs.length i with
      | some j => match xs[j]? with
        | some y => if -1000000 ≤ i ∧ i ≤ 1000000 then .ok (y, st.set n (.lst (xs.eraseIdx j))) else .bad
        | none => .bad
      | none => .bad
    | _ => .bad
  | _, _ => .bad
theorem Reps.dropLast {F : Hp} {r : List Addr} {vs : List V} {ds : List D} (h : Reps F r vs ds) : Reps F r vs.dropLast ds.dropLast := by
  rw [List.dropLast_eq_take, List.dropLast_eq_take, h.length]
  exact h.take _
theorem dm_pop : DM W X "list.pop" popG := ⟨_, MtR.or mt_pop mt_popAt, fun Rs F H rr st v d vs ds Q E h ko k hP => by
  unfold popG at hP
  split at hP
  · split at hP
    · rename_i n xs e1
      split at hP
      · rename_i y e2
        cases ko with
        | @ref a n q =>
          match k with
          | .nil =>
            obtain ⟨ws, q1, k1⟩ := h.ob _ a _ q e1
            obtain ⟨z, e3, k3⟩ := k1.get e2
            exact .inl ⟨a, ws, z, rfl, rfl, q1, by rw [k1.length]; exact e3, onE_here (h.write (b := .lst _) q ⟨_, upd_same, k1.dropLast⟩) k3 hP⟩
      · exact hP.elim
    · exact hP.elim
  · split at hP
    · rename_i n i xs e1
      split at hP
      · rename_i j e2
        split at hP
        · rename_i y e3
          split at hP
          · rename_i hb
            cases ko with
            | @ref a n q =>
              match k with
              | .cons (.int _) .nil =>
                obtain ⟨ws, q1, k1⟩ := h.ob _ a _ q e1
                obtain ⟨z, e4, k4⟩ := k1.get e3
                exact .inr ⟨a, ws, _, j, z, rfl, rfl, q1, by omega, by omega, by rw [k1.length]; exact (ixN_seq e2).1, e4, onE_here (h.write (b := .lst _) q ⟨_, upd_same, k1.eraseIdx _⟩) k4 hP⟩
          · exact hP.elim
        · exact hP.elim
      · exact hP.elim
    · exact hP.elim
  · exact hP.elim⟩
def asciiS (s : List Nat) : Bool := s.all fun c => decide (c < 128)
def strsOf : List D → Option (List (List Nat))
  | [] => some []
  | .str s :: r => match strsOf r with
    | some l => some (s :: l)
    | none => none
  | _ => none
@[simp] theorem strsOf_map (ss : List (List Nat)) : strsOf (ss.map D.str) = some ss := by
  induction ss with
  | nil => rfl
  | cons s ss ih => simp [strsOf, ih]
theorem strsOf_ok {F : Hp} {r : List Addr} : ∀ {ds : List D} {vs : List V} {ss : List (List Nat)}, Reps F r vs ds → strsOf ds = some ss → vs = (ss.map fun s => (⟨s.toArray⟩ : Str)).map V.str ∧ ∀ s ∈ ss, asciiS s = true
  | [], _, _, .nil, e => by cases e; exact ⟨rfl, fun _ h => nomatch h⟩
  | .str s :: ds, _, ns, .cons (.str _ h1 h2) k, e => by
    unfold strsOf at e
    cases q : strsOf ds with
    | none => rw [q] at e; cases e
    | some l =>
      rw [q] at e
      cases e
      obtain ⟨a, b⟩ := strsOf_ok k q
      rw [a]
      refine ⟨rfl, fun t ht => ?_⟩
      rcases List.mem_cons.mp ht with rfl | ht
      · exact h1
      · exact b t ht
  | .non :: _, _, _, _, e => by cases e
  | .bl _ :: _, _, _, _, e => by cases e
  | .int _ :: _, _, _, _, e => by cases e
  | .tup _ :: _, _, _, _, e => by cases e
  | .lst _ :: _, _, _, _, e => by cases e
  | .ref _ :: _, _, _, _, e => by cases e
  | .scr _ :: _, _, _, _, e => by cases e
  | .exn _ _ :: _, _, _, _, e => by cases e
def joinG : GM := fun st o ds => match o, ds with
  | .str s, [d] => match (lstOf st d).bind strsOf with
    | some ss => if (ss.map List.length).sum + ss.length * s.length ≤ LIM then .ok (.str (TL.joinL s ss), st) else .bad
    | none => .bad
  | _, _ => .bad
theorem joinL_len (s : List Nat) : ∀ ss : List (List Nat), (TL.joinL s ss).length ≤ (ss.map List.length).sum + ss.length * s.length
  | [] => by simp [TL.joinL]
  | [p] => by simp [TL.joinL]
  | p :: q :: r => by
    have ih := joinL_len s (q :: r)
    simp only [TL.joinL, List.length_append, List.map_cons, List.sum_cons, List.length_cons, Nat.succ_mul] at ih ⊢
    omega
theorem joinL_all {s : List Nat} (hs : asciiS s = true) : ∀ {ss : List (List Nat)}, (∀ t ∈ ss, asciiS t = true) → asciiS (TL.joinL s ss) = true
  | [], _ => rfl
  | [p], h => by simpa [TL.joinL] using h p (by simp)
  | p :: q :: r, h => by
    have ih := joinL_all hs (ss := q :: r) fun t ht => h t (by simp at ht ⊢; exact .inr ht)
    have hp := h p (by simp)
    unfold asciiS at *
    simp only [TL.joinL, List.all_append, hp, hs, ih, Bool.and_self]
theorem join_mk (s : List Nat) (ss : List (List Nat)) : Txt.join ⟨s.toArray⟩ (ss.map fun s => (⟨s.toArray⟩ : Str)) = ⟨(TL.joinL s ss).toArray⟩ := by
  apply TL.ext_tl
  rw [TL.join_eq, TL.tl_join]
  have e : ∀ t : List Nat, TL.tl ⟨t.toArray⟩ = t := fun t => TL.tl_mk t
  rw [List.map_map]
  have e2 : (TL.tl ∘ fun s => (⟨List.toArray s⟩ : Str)) = fun (t : List Nat) => t := by funext t; exact e t
  rw [e, e, e2, List.map_id']
theorem dm_join : DM W X "str.join" joinG := ⟨_, mt_join, fun Rs F H rr st v d vs ds Q E h ko k hP => by
  unfold joinG at hP
  split at hP
  · rename_i s d
    match k with
    | .cons k .nil =>
      cases e1 : lstOf st d with
      | none => rw [e1] at hP; exact hP.elim
      | some ds =>
        rw [e1] at hP
        simp only [Option.bind_some] at hP
        split at hP
        · rename_i ss e2
          split at hP
          · rename_i hl
            cases ko with
            | str s hs hsl =>
              obtain ⟨p, ws, rfl, h1, k1⟩ := lstOf_ok h k e1
              obtain ⟨ev, ha⟩ := strsOf_ok k1 e2
              refine ⟨_, p, ss.map fun s => (⟨s.toArray⟩ : Str), rfl, rfl, .inl (.of (by rw [← ev]; exact h1)), ?_, ?_⟩
              · rw [List.map_map, List.length_map, len_mk]
                have e3 : ((fun (x : Str) => x.length) ∘ fun (s : List Nat) => (⟨s.toArray⟩ : Str)) = List.length := by funext t; exact len_mk t
                rw [e3]
                exact Nat.le_trans hl (by decide)
              · rw [join_mk]
                exact onE_here h (.str _ (joinL_all hs ha) (Nat.le_trans (joinL_len s ss) hl)) hP
          · exact hP.elim
        · exact hP.elim
  · exact hP.elim⟩
/-- s cut at each S -/
def splitL (S s : List Nat) : List (List Nat) := TL.spl S 0 [] s
theorem spl_in (S : List Nat) : ∀ (s : List Nat) (k : Nat) (acc : List Nat), asciiS acc = true → asciiS s = true → ∀ t ∈ TL.spl S k acc s, asciiS t = true ∧ t.length ≤ acc.length + s.length
  | [], k, acc, ha, hs, t, ht => by
    rw [TL.spl_nil] at ht
    simp at ht
    subst ht
    exact ⟨ha, by simp⟩
  | c :: r, 0, acc, ha, hs, t, ht => by
    have hs' : c < 128 ∧ asciiS r = true := by
      unfold asciiS at hs ⊢
      rw [List.all_cons, Bool.and_eq_true] at hs
      exact ⟨of_decide_eq_true hs.1, hs.2⟩
    unfold TL.spl at ht
    split at ht
    · rcases List.mem_cons.mp ht with rfl | ht
      · exact ⟨ha, by simp⟩
      · obtain ⟨a, b⟩ := spl_in S r _ [] rfl hs'.2 t ht
        exact ⟨a, by simp at b ⊢; omega⟩
    · obtain ⟨a, b⟩ := spl_in S r 0 (acc ++ [c]) (by unfold asciiS at ha ⊢; simp [ha, hs'.1]) hs'.2 t ht
      exact ⟨a, by simp at b ⊢; omega⟩
  | c :: r, k + 1, acc, ha, hs, t, ht => by
    have hs' : asciiS r = true := by
      unfold asciiS at hs ⊢
      rw [List.all_cons, Bool.and_eq_true] at hs
      exact hs.2
    unfold TL.spl at ht
    obtain ⟨a, b⟩ := spl_in S r k acc ha hs' t ht
    exact ⟨a, by simp at b ⊢; omega⟩
theorem reps_strs {F : Hp} {r : List Addr} : ∀ {ys : List Str} {ss : List (List Nat)}, ys.map TL.tl = ss → (∀ s ∈ ss, asciiS s = true ∧ s.length ≤ LIM) → Reps F r (ys.map V.str) (ss.map D.str)
  | [], _, e, _ => by subst e; exact .nil
  | y :: ys, _, e, h => by
    subst e
    rw [List.map_cons] at h
    refine .cons ?_ (reps_strs rfl fun s hs => h s (List.mem_cons_of_mem _ hs))
    have := h (TL.tl y) List.mem_cons_self
    have e : y = ⟨(TL.tl y).toArray⟩ := (TL.mk_tl y).symm
    rw [e, TL.tl_mk]
    exact .str _ this.1 this.2
def splitG (m : Bool) : GM := fun st o ds => match o, ds with
  | .str s, [.str t] => if t ≠ [] then newL m ((splitL t s).map D.str) st else .bad
  | _, _ => .bad
theorem dm_split (m : Bool) : DM W X "str.split" (splitG m) := ⟨_, mt_split, fun Rs F H rr st v d vs ds Q E h ko k hP => by
  unfold splitG at hP
  split at hP
  · rename_i s t
    split at hP
    · rename_i hne
      cases ko with
      | str s hs hsl =>
        cases k with
        | cons k k2 =>
          cases k2
          cases k with
          | str t ht htl =>
            refine ⟨_, _, rfl, rfl, ?_, ?_, ?_⟩
            · rw [len_mk, beq_eq_false_iff_ne]
              exact fun z => hne (List.length_eq_zero_iff.mp z)
            · rw [len_mk]
              exact Nat.le_trans (Nat.add_le_add_right hsl 2) (by decide)
            · intro p hp
              have e : (Txt.split ⟨s.toArray⟩ ⟨t.toArray⟩).map TL.tl = splitL t s := TL.split_spl _ _ (by rw [TL.tl_mk]; exact hne) (TL.kind_ok (by
                rw [List.all_eq_true] at ht
                simp only [List.size_toArray, List.all_toArray', List.all_eq_true, decide_eq_true_eq]
                intro x hx
                have := of_decide_eq_true (ht x hx)
                omega))
              exact newL_post h (reps_strs e fun u hu => by
                obtain ⟨a, b⟩ := spl_in t s 0 [] rfl hs u hu
                exact ⟨a, Nat.le_trans b (by simpa using hsl)⟩) hP hp
    · exact hP.elim
  · exact hP.elim⟩
end
mutual
def D.wf (n : Nat) : D → Bool
  | .ref k => decide (k < n)
  | .tup ds => D.wfs n ds
  | .lst ds => D.wfs n ds
  | _ => true
def D.wfs (n : Nat) : List D → Bool
  | [] => true
  | d :: ds => D.wf n d && D.wfs n ds
end
def Ob.wf (n : Nat) : Ob → Bool
  | .lst ds => D.wfs n ds
  | .ins _ fs => fs.all fun p => p.2.wf n
  | .dK kvs => kvs.all fun p => p.2.wf n
  | .dT kvs => kvs.all fun p => p.2.wf n
  | .dead => true
  | .fn _ => true
def wfS (st : Store) : Prop := ∀ o ∈ st, o.wf st.length = true
section
variable {F F' : Hp} {r : List Addr}
mutual
theorem Rep.wf : ∀ {d : D} {v : V}, Rep F r v d → d.wf r.length = true
  | _, _, .non => rfl
  | _, _, .bl _ => rfl
  | _, _, .int _ => rfl
  | _, _, .str _ _ _ => rfl
  | _, _, .tup _ k => by unfold D.wf; exact Reps.wf k
  | _, _, .lst _ k => by unfold D.wf; exact Reps.wf k
  | _, _, .ref h => by unfold D.wf; exact decide_eq_true (List.getElem?_eq_some_iff.mp h).1
  | _, _, .scr _ => rfl
  | _, _, .exn0 _ => rfl
  | _, _, .exn1 _ => rfl
theorem Reps.wf : ∀ {ds : List D} {vs : List V}, Reps F r vs ds → D.wfs r.length ds = true
  | _, _, .nil => rfl
  | _, _, .cons h k => by unfold D.wfs; rw [Rep.wf h, Reps.wf k]; rfl
end
theorem Flds.wf {vs : List (Str × V)} {fs : List (Str × D)} (h : Flds F r vs fs) : (fs.all fun p => p.2.wf r.length) = true := by
  induction fs generalizing vs with
  | nil => rfl
  | cons p fs ih =>
    cases vs with
    | nil => exact h.elim
    | cons q vs =>
      obtain ⟨_, k, t⟩ := h
      rw [List.all_cons, k.wf, ih t]; rfl
theorem KVr.wf {A : Type} {vs : List (A × V)} {fs : List (A × D)} (h : KVr F r vs fs) : (fs.all fun p => p.2.wf r.length) = true := by
  induction fs generalizing vs with
  | nil => rfl
  | cons p fs ih =>
    cases vs with
    | nil => exact h.elim
    | cons q vs =>
      obtain ⟨_, k, t⟩ := h
      rw [List.all_cons, k.wf, ih t]; rfl
theorem Holds.wf {W : Wd} {Rs H : Hp} {st : Store} (h : Holds W Rs F H r st) : wfS st := fun o m => by
  obtain ⟨i, hi, rfl⟩ := List.mem_iff_getElem.mp m
  obtain ⟨a, e, k⟩ := h.get (n := i) (o := st[i]) (by simp [hi])
  rw [← h.len]
  cases eo : st[i] with
  | lst ds => rw [eo] at k; obtain ⟨vs, _, k⟩ := k; exact k.wf
  | ins C fs => rw [eo] at k; obtain ⟨dx, vs, _, k⟩ := k; exact k.wf
  | dK kvs => rw [eo] at k; obtain ⟨vs, _, k⟩ := k; exact k.wf
  | dT kvs => rw [eo] at k; obtain ⟨vs, _, k⟩ := k; exact k.wf
  | dead => rfl
  | fn j => rfl
end
/-- the new references of d told by what they hold -/
def rsv (n : Nat) (st : Store) : Nat → D → Option D
  | 0, _ => none
  | k + 1, d => match d with
    | .tup ds => match optAll (ds.map (rsv n st k)) with
      | some es => some (.tup es)
      | none => none
    | .lst ds => match optAll (ds.map (rsv n st k)) with
      | some es => some (.lst es)
      | none => none
    | .ref i => if i < n then some (.ref i) else match st[i]? with
      | some (.lst ds) => match optAll (ds.map (rsv n st k)) with
        | some es => some (.lst es)
        | none => none
      | _ => none
    | d => some d
section
variable {W : Wd} {Rs F F' H H' : Hp} {r r' : List Addr} {st st1 junk : Store} {E : XK}
/-- the frozen part with all that was laid -/
def froz (F' H' : Hp) (js : List Addr) : Hp := fun a => if a ∈ js then H' a else F' a
theorem froz_same (h : Holds W Rs F' H' r' st) {js : List Addr} (hj : ∀ a ∈ js, a ∈ r') : Same F' (froz F' H' js) := fun a o e => by
  unfold froz
  rw [if_neg fun m => by rw [(h.own a (hj a m)).1] at e; cases e]
  exact e
theorem rep_cut {n : Nat} : ∀ {d : D} {v : V}, Rep F' r' v d → d.wf n = true → Rep F' (r'.take n) v d := by
  have : (∀ (d : D) (v : V), Rep F' r' v d → d.wf n = true → Rep F' (r'.take n) v d) := by
    intro d
    refine D.rec (motive_1 := fun d => ∀ (v : V), Rep F' r' v d → d.wf n = true → Rep F' (r'.take n) v d) (motive_2 := fun ds => ∀ (vs : List V), Reps F' r' vs ds → D.wfs n ds = true → Reps F' (r'.take n) vs ds) ?_ ?_ ?_ ?_ ?_ ?_ ?_ ?_ ?_ ?_ ?_ d
    · intro v k _; cases k; exact .non
    · intro b v k _; cases k; exact .bl b
    · intro b v k _; cases k; exact .int b
    · intro b v k _; cases k with | str _ h1 h2 => exact .str b h1 h2
    · intro ds ih v k w; cases k with | tup q k => exact .tup q (ih _ k (by unfold D.wf at w; exact w))
    · intro ds ih v k w; cases k with | lst q k => exact .lst q (ih _ k (by unfold D.wf at w; exact w))
    · intro i v k w
      cases k with
      | ref q =>
        unfold D.wf at w
        exact .ref (by rw [List.getElem?_take_of_lt (of_decide_eq_true w)]; exact q)
    · intro ns v k _; cases k with | scr q => exact .scr q
    · intro a o v k _; cases k with
      | exn0 => exact .exn0 _
      | exn1 q => exact .exn1 q
    · intro vs k _; cases k; exact .nil
    · intro d ds ih1 ih2 vs k w
      cases k with
      | cons k1 k2 =>
        unfold D.wfs at w
        rw [Bool.and_eq_true] at w
        exact .cons (ih1 _ k1 w.1) (ih2 _ k2 w.2)
  exact fun {d v} => this d v
theorem reps_cut {n : Nat} : ∀ {ds : List D} {vs : List V}, Reps F' r' vs ds → D.wfs n ds = true → Reps F' (r'.take n) vs ds
  | [], _, .nil, _ => .nil
  | d :: ds, _, .cons k1 k2, w => by
    unfold D.wfs at w
    rw [Bool.and_eq_true] at w
    exact .cons (rep_cut k1 w.1) (reps_cut k2 w.2)
theorem flds_cut {n : Nat} : ∀ {vs : List (Str × V)} {fs : List (Str × D)}, Flds F' r' vs fs → (fs.all fun p => p.2.wf n) = true → Flds F' (r'.take n) vs fs
  | [], [], _, _ => trivial
  | _ :: _, _ :: _, ⟨e, k, t⟩, w => by
    rw [List.all_cons, Bool.and_eq_true] at w
    exact ⟨e, rep_cut k w.1, flds_cut t w.2⟩
  | [], _ :: _, h, _ => h.elim
  | _ :: _, [], h, _ => h.elim
theorem kvr_cut {A : Type} {n : Nat} : ∀ {vs : List (A × V)} {fs : List (A × D)}, KVr F' r' vs fs → (fs.all fun p => p.2.wf n) = true → KVr F' (r'.take n) vs fs
  | [], [], _, _ => trivial
  | _ :: _, _ :: _, ⟨e, k, t⟩, w => by
    rw [List.all_cons, Bool.and_eq_true] at w
    exact ⟨e, rep_cut k w.1, kvr_cut t w.2⟩
  | [], _ :: _, h, _ => h.elim
  | _ :: _, [], h, _ => h.elim
/-- the store cut off at n, the rest frozen -/
theorem Holds.cut (h : Holds W Rs F' H' r' (st1 ++ junk)) (w : ∀ o ∈ st1, o.wf st1.length = true) (hk : KnOk W.lam Rs F' (r'.take st1.length)) : Holds W Rs (froz F' H' (r'.drop st1.length)) H' (r'.take st1.length) st1 := by
  have sF := froz_same h (js := r'.drop st1.length) fun a m => List.mem_of_mem_drop m
  have hl : st1.length ≤ r'.length := by rw [h.len]; simp
  refine ⟨fun a o e => ?_, h.sR, fun a e => ?_, by simp [hl], h.nd.sublist (List.take_sublist _ _), fun a m => ?_, fun i a o e1 e2 => ?_, ⟨fun t ht => ?_, fun a ps z => ?_, h.tb.nR⟩, hk.mono (Same.refl _) sF (Ext.refl _)⟩
  · unfold froz at e
    split at e
    · exact e
    · exact h.sF _ _ e
  · unfold froz at e
    split at e
    · rename_i m; exact (h.own a (List.mem_of_mem_drop m)).2
    · exact h.dj a e
  · have o := h.own a (List.mem_of_mem_take m)
    refine ⟨?_, o.2⟩
    unfold froz
    rw [if_neg fun m2 => ?_]
    · exact o.1
    · have nd := h.nd
      rw [← List.take_append_drop st1.length r', List.nodup_append] at nd
      exact nd.2.2 a m a m2 rfl
  · have hi : i < st1.length := (List.getElem?_eq_some_iff.mp e2).1
    rw [List.getElem?_take_of_lt hi] at e1
    have k := h.ob i a o e1 (by rw [List.getElem?_append_left hi]; exact e2)
    have wo := w o (List.mem_of_getElem? e2)
    cases o with
    | lst ds => obtain ⟨vs, q, k⟩ := k; exact ⟨vs, q, (reps_cut k wo).mono sF (Ext.refl _)⟩
    | ins C fs => obtain ⟨dx, vs, q, k⟩ := k; exact ⟨dx, vs, q, (flds_cut k wo).mono sF (Ext.refl _)⟩
    | dK kvs => obtain ⟨vs, q, k⟩ := k; exact ⟨vs, q, (kvr_cut k wo).mono sF (Ext.refl _)⟩
    | dT kvs => obtain ⟨vs, q, k⟩ := k; exact ⟨vs, q, (kvr_cut k wo).mono sF (Ext.refl _)⟩
    | dead => exact k
    | fn j => obtain ⟨l, P, c', ps, h1, h2, h3, h4, h5⟩ := k; exact ⟨l, P, c', ps, h1, h2, h3, h4, h5.mono sF rfl⟩
  · obtain ⟨t1, t2, t3, t4⟩ := h.tb.at_ t ht
    refine ⟨t1, ?_, t3, fun m => t4 (List.mem_of_mem_take m)⟩
    unfold froz
    rw [if_neg fun m => t4 (List.mem_of_mem_drop m)]
    exact t2
  · unfold froz at z
    split at z
    · rename_i m
      obtain ⟨u, hu, k1, _⟩ := h.kindOf (List.mem_of_mem_drop m)
      rw [hu] at z
      exact k1 ps (Option.some.inj z)
    · exact h.tb.nF a ps z
/-- res is res' but for what was laid on the way -/
def Frz (n : Nat) (res res' : R (D × Store)) : Prop := match res' with
  | .ok (d', st1) => ∃ d junk, res = .ok (d, st1 ++ junk) ∧ st1.length = n ∧ (∀ o ∈ st1, o.wf n = true) ∧ rsv n (st1 ++ junk) 50 d = some d'
  | .exc c none st1 => ∃ junk, res = .exc c none (st1 ++ junk) ∧ st1.length = n ∧ (∀ o ∈ st1, o.wf n = true)
  | .exc c (some d') st1 => ∃ d junk, res = .exc c (some d) (st1 ++ junk) ∧ st1.length = n ∧ (∀ o ∈ st1, o.wf n = true) ∧ rsv n (st1 ++ junk) 50 d = some d'
  | .bad => True
end
end Dl
namespace Dl
open PySem L2
section
variable {P : Program} {w : World} {W : Wd} {mg : Str → Option Value} {base : Heap} {X : Cx} {E : XK}
/-- a def of the text that means g -/
structure Fn (P : Program) (w : World) (W : Wd) (mg : Str → Option Value) (base : Heap) (x : Str) (k n : Nat) (g : FV) : Prop where
  ex : ∃ f fd ps, FnOk P w W.K mg base (L2.CX P w) k f fd ps (spD W n g) ∧ mg x = some (.ref f) ∧ PySem.W.keepIn W.K (.ref f) = true ∧ Binds W.K fd ps []
/-- a method of the class c -/
structure Mt (P : Program) (w : World) (W : Wd) (mg : Str → Option Value) (base : Heap) (c : Nat) (m : Str) (k n : Nat) (g : FV) : Prop where
  ex : ∃ f fd ps, FnOk P w W.K mg base (L2.CX P w) k f fd ps (spD W n g) ∧ Meth W.K (W.cls c) m f ∧ Binds W.K fd ps []
  cl : Cls W.K (W.cls c)
/-- the class c by its __init__ -/
structure Nw (P : Program) (w : World) (W : Wd) (mg : Str → Option Value) (base : Heap) (x : Str) (c : Nat) (k n : Nat) (g : FV) : Prop where
  ex : ∃ f fd ps, FnOk P w W.K mg base (L2.CX P w) k f fd ps (spD W n g) ∧ Mk W.K (W.cls c) f ∧ mg x = some (.ref (W.cls c)) ∧ Binds W.K fd ps []
/-- the meaning said otherwise where it is said at all -/
theorem Frz.same {n : Nat} {res : R (D × Store)} : ∀ {d : D} {st : Store}, res = .ok (d, st) → st.length = n → (∀ o ∈ st, o.wf n = true) → rsv n st 50 d = some d → Frz n res (.ok (d, st)) := fun e h1 h2 h3 => ⟨_, [], by rw [List.append_nil]; exact e, h1, h2, by rw [List.append_nil]; exact h3⟩
theorem dv (i : Nat) {x : Str} {pos : Pos} (hN : X.N[i]? = some x := by rfl) (hv : Vis X.env.scope x := by first | exact Or.inl rfl | exact Or.inr (Or.inl rfl) | exact Or.inr (Or.inr rfl)) (hd : (x == ("__debug__" : Str)) = false := by decide)
    (hcd : (x == ("__classdict__" : Str)) = false := by decide) : DE W X E (.Name x pos) (eV i) := de_var hN hv hd hcd
def eNeg (f : EV) : EV := fun env st => (f env st).bind fun a => match a.1 with
  | .int i => .ok (.int (-i), a.2)
  | _ => .bad
theorem de_neg {e : Expr} {f : EV} {pos : Pos} (h : DE W X E e f) : DE W X E (.UnaryOp .USub e pos) (eNeg f) := by
  obtain ⟨t, p, q⟩ := h.ex
  refine .mk (pe_un un_neg p) fun Rs F H rr sg env st Q hH hE hP => ?_
  refine q Rs F H rr sg env st _ hH hE (bindX hP fun a ea z F1 H1 r1 v1 s1 x1 h1 k1 => ?_)
  obtain ⟨d, st1⟩ := a
  cases k1 with
  | int i => exact ⟨i, rfl, z F1 H1 r1 _ s1 x1 h1 (.int _)⟩
  | _ => exact z.elim
section
variable {k j n : Nat} {g : FV} {x : Str} {e : Expr} {es : List Expr} {p pos apos : Pos} {ga : AV}
theorem dcall (c : Fn X.prog X.w W X.mg X.base x k n g) (hr : Room j X.A) (hx : Passes (L2.CX X.prog X.w) X E) (ha : DA W X E (e :: es) ga) (hK : X.K = W.K := by rfl) (hj : k ≤ j := by decide) (hg : Gl X x := by rfl)
    (hdb : (x == ("__debug__" : Str)) = false := by decide) (he : starEach (e :: es) X.env = (false, eval e X.env) :: starEach es X.env := by rfl) (hpl : (backTo pos (starEach es X.env)).any (·.1) = false := by rfl) :
    DE W X E (.Call (.Name x p) (e :: es) [] pos) (eCall n g ga) := let ⟨f, fd, ps, F, a, b, c⟩ := c.ex; de_call hK F hr hj hg a b c hx ha hdb he hpl
theorem dmake {c : Nat} (c' : Nw X.prog X.w W X.mg X.base x c k n g) (hr : Room (j + 1) X.A) (hx : Passes (L2.CX X.prog X.w) X E) (ha : DA W X E (e :: es) ga) (hK : X.K = W.K := by rfl) (hj : k ≤ j := by decide) (hg : Gl X x := by rfl)
    (hdb : (x == ("__debug__" : Str)) = false := by decide) (he : starEach (e :: es) X.env = (false, eval e X.env) :: starEach es X.env := by rfl) (hpl : (backTo pos (starEach es X.env)).any (·.1) = false := by rfl) :
    DE W X E (.Call (.Name x p) (e :: es) [] pos) (eMake c n g ga) := let ⟨f, fd, ps, F, a, b, c⟩ := c'.ex; de_make hK a F hr hj hg b c hx ha hdb he hpl
theorem dmeth {o : Expr} {fo : EV} {c : Nat} {m : Str} {pl : Sem Bool} (c' : Mt X.prog X.w W X.mg X.base c m k n g) (he : DE W X E o fo) (hr : Room j X.A) (hx : Passes (L2.CX X.prog X.w) X E) (ha : DA W X E (e :: es) ga) (hK : X.K = W.K := by rfl) (hj : k ≤ j := by decide)
    (hst : starEach (e :: es) X.env = (false, eval e X.env) :: starEach es X.env := by rfl) (hpl : (backTo pos (starEach es X.env)).any (·.1) = false := by rfl)
    (ht : eval (.Call (.Attribute o m apos) (e :: es) [] pos) X.env = (do
      let ov ← eval o X.env
      standAt apos.atName
      let (f, first) ← holding [ov] (getMethod ov m pl)
      callWith pos f first (backTo pos (starEach (e :: es) X.env)) (backToKw pos (keywordEach [] X.env))) := by rfl) :
    DE W X E (.Call (.Attribute o m apos) (e :: es) [] pos) (eMeth c m n g fo ga) := let ⟨f, fd, ps, F, a, b⟩ := c'.ex; de_meth (pl := pl) hK he c'.cl a F hr hj b hx ha hst hpl ht
theorem dmeth0 {o : Expr} {fo : EV} {c : Nat} {m : Str} {pl : Sem Bool} (c' : Mt X.prog X.w W X.mg X.base c m k n g) (he : DE W X E o fo) (hr : Room j X.A) (hx : Passes (L2.CX X.prog X.w) X E) (hK : X.K = W.K := by rfl) (hj : k ≤ j := by decide)
    (ht : eval (.Call (.Attribute o m apos) [] [] pos) X.env = (do
      let ov ← eval o X.env
      standAt apos.atName
      let (f, first) ← holding [ov] (getMethod ov m pl)
      callWith pos f first [] []) := by rfl) :
    DE W X E (.Call (.Attribute o m apos) [] [] pos) (eMeth c m n g fo aNil) := let ⟨f, fd, ps, F, a, b⟩ := c'.ex; de_meth0 (pl := pl) hK he c'.cl a F hr hj b hx fun {to} po => by
      refine pe_meth0 (pl := pl) (C := W.cls c) (sp := spD W n g) po (by rw [hK]; exact c'.cl) (by rw [hK]; exact a) (by rw [hK]; exact F) (hr.mono hj) (by rw [hK]; exact b) .nil hx ht
end
theorem passD {qual : Str} {N : List Str} {sc : Scope} {f : Addr} {cd : Value} {A : Around} {outer : List PySem.Env} {s : Shared} {H : Hp} {K : PySem.W.Frag} : Passes (L2.CX P w) (cxOf (L2.CX P w) P w K mg base N qual sc f cd A outer s H E) E :=
  passes_call (takes_of rfl rfl rfl rfl) fun _ _ _ _ h => h
theorem passF {qual : Str} {N : List Str} {sc : Scope} {f : Addr} {cd : Value} {A : Around} {outer : List PySem.Env} {s : Shared} {H : Hp} {K : PySem.W.Frag} : PassesOwn (model P w) (cxOf (L2.CX P w) P w K mg base N qual sc f cd A outer s H E).A (cxOf (L2.CX P w) P w K mg base N qual sc f cd A outer s H E).env (cxOf (L2.CX P w) P w K mg base N qual sc f cd A outer s H E).xe :=
  passes_of (X := cxOf (L2.CX P w) P w K mg base N qual sc f cd A outer s H E) rfl
end
end Dl
namespace Dl
open PySem L2
def SR.andThen (r : SR) (g : SV) : SR := match r with
  | .nx e s => g e s
  | .rt d s => .rt d s
  | .bk e s => .bk e s
  | .ct e s => .ct e s
  | .exc c p s => .exc c p s
  | .bad => .bad
@[simp] theorem then_nx (e : Env) (s : Store) (g : SV) : (SR.nx e s).andThen g = g e s := (rfl)
@[simp] theorem then_rt (d : D) (s : Store) (g : SV) : (SR.rt d s).andThen g = .rt d s := (rfl)
@[simp] theorem then_bk (e : Env) (s : Store) (g : SV) : (SR.bk e s).andThen g = .bk e s := (rfl)
@[simp] theorem then_ct (e : Env) (s : Store) (g : SV) : (SR.ct e s).andThen g = .ct e s := (rfl)
@[simp] theorem then_exc (c : Nat) (p : Option D) (s : Store) (g : SV) : (SR.exc c p s).andThen g = .exc c p s := (rfl)
@[simp] theorem then_bad (g : SV) : (SR.bad).andThen g = .bad := (rfl)
def R.ifS (r : R (Bool × Store)) (f g : SV) (env : Env) : SR := match r with
  | .ok a => if a.1 = true then f env a.2 else g env a.2
  | .exc c p st => .exc c p st
  | .bad => .bad
@[simp] theorem ifS_ok (a : Bool × Store) (f g : SV) (env : Env) : (R.ok a).ifS f g env = if a.1 = true then f env a.2 else g env a.2 := (rfl)
@[simp] theorem ifS_exc (c : Nat) (p : Option D) (st : Store) (f g : SV) (env : Env) : (R.exc c p st : R (Bool × Store)).ifS f g env = .exc c p st := (rfl)
@[simp] theorem ifS_bad (f g : SV) (env : Env) : (R.bad : R (Bool × Store)).ifS f g env = .bad := (rfl)
def R.forS (r : R (Wk × Store)) (g : GV) (b : SV) (env : Env) : SR := match r with
  | .ok a => forGo a.1.2 g b a.1.1 env a.2
  | .exc c p st => .exc c p st
  | .bad => .bad
@[simp] theorem forS_ok (ds : List D) (sub : List (Nat × List D)) (s : Store) (g : GV) (b : SV) (env : Env) : (R.ok ((ds, sub), s)).forS g b env = forGo sub g b ds env s := (rfl)
@[simp] theorem forS_exc (c : Nat) (p : Option D) (st : Store) (g : GV) (b : SV) (env : Env) : (R.exc c p st : R (Wk × Store)).forS g b env = .exc c p st := (rfl)
@[simp] theorem forS_bad (g : GV) (b : SV) (env : Env) : (R.bad : R (Wk × Store)).forS g b env = .bad := (rfl)
def R.lcS (r : R (Wk × Store)) (m : Bool) (t : Tg1) (tt : TV) (te : EV) (env : Env) : R (D × Store) := match r with
  | .ok a => if a.1.1.length ≤ LIM then (lcGo a.1.2 t tt te env a.1.1 [] a.2).bind fun b => newL m b.1 b.2 else .bad
  | .exc c p st => .exc c p st
  | .bad => .bad
@[simp] theorem lcS_ok (ds : List D) (sub : List (Nat × List D)) (s : Store) (m : Bool) (t : Tg1) (tt : TV) (te : EV) (env : Env) : (R.ok ((ds, sub), s)).lcS m t tt te env = if ds.length ≤ LIM then (lcGo sub t tt te env ds [] s).bind fun b => newL m b.1 b.2 else .bad := (rfl)
@[simp] theorem lcS_exc (c : Nat) (p : Option D) (st : Store) (m : Bool) (t : Tg1) (tt : TV) (te : EV) (env : Env) : (R.exc c p st : R (Wk × Store)).lcS m t tt te env = .exc c p st := (rfl)
@[simp] theorem lcS_bad (m : Bool) (t : Tg1) (tt : TV) (te : EV) (env : Env) : (R.bad : R (Wk × Store)).lcS m t tt te env = .bad := (rfl)
section
variable (env : Env) (st : Store)
@[simp] theorem r_eV (i : Nat) : eV i env st = match env[i]? with
  | some (some d) => .ok (d, st)
  | _ => .bad := (rfl)
@[simp] theorem r_eC (d : D) : eC d env st = .ok (d, st) := (rfl)
@[simp] theorem r_eOp (g : G2) (fa fb : EV) : eOp g fa fb env st = (fa env st).bind fun a => (fb env a.2).bind fun b => g b.2 a.1 b.1 := (rfl)
@[simp] theorem r_tv (f : EV) : tv f env st = (f env st).bind fun a => match a.1 with
  | .bl b => .ok (b, a.2)
  | _ => .bad := (rfl)
@[simp] theorem r_eChain (g g' : G2) (fa fb fc : EV) : eChain g g' fa fb fc env st = (fa env st).bind fun a => (fb env a.2).bind fun b => (g b.2 a.1 b.1).bind fun z => match z.1 with
  | .bl true => (fc env z.2).bind fun c => g' c.2 b.1 c.1
  | .bl false => .ok (.bl false, z.2)
  | _ => .bad := (rfl)
@[simp] theorem r_tAndD (f g : TV) : tAndD f g env st = (f env st).bind fun a => if a.1 = true then g env a.2 else .ok (false, a.2) := (rfl)
@[simp] theorem r_tOrD (f g : TV) : tOrD f g env st = (f env st).bind fun a => if a.1 = true then .ok (true, a.2) else g env a.2 := (rfl)
@[simp] theorem r_tNotD (f : TV) : tNotD f env st = (f env st).bind fun a => .ok (!a.1, a.2) := (rfl)
@[simp] theorem r_eAnd (f g : EV) : eAnd f g env st = (f env st).bind fun a => match a.1 with
  | .bl true => g env a.2
  | .bl false => .ok (.bl false, a.2)
  | _ => .bad := (rfl)
@[simp] theorem r_eOr (f g : EV) : eOr f g env st = (f env st).bind fun a => match a.1 with
  | .bl true => .ok (.bl true, a.2)
  | .bl false => g env a.2
  | _ => .bad := (rfl)
@[simp] theorem r_eNot (f : EV) : eNot f env st = (f env st).bind fun a => match a.1 with
  | .bl b => .ok (.bl (!b), a.2)
  | _ => .bad := (rfl)
@[simp] theorem r_eIf (t : TV) (f g : EV) : eIf t f g env st = (t env st).bind fun a => if a.1 = true then f env a.2 else g env a.2 := (rfl)
@[simp] theorem r_aNil : aNil env st = .ok ([], st) := (rfl)
@[simp] theorem r_aCons (f : EV) (g : AV) : aCons f g env st = (f env st).bind fun a => (g env a.2).bind fun b => .ok (a.1 :: b.1, b.2) := (rfl)
@[simp] theorem r_newF (ds : List D) : newL false ds st = .ok (.lst ds, st) := (rfl)
@[simp] theorem r_newT (ds : List D) : newL true ds st = .ok (.ref st.length, st ++ [.lst ds]) := (rfl)
@[simp] theorem r_eTup (g : AV) : eTup g env st = (g env st).bind fun a => if a.1.length ≤ LIM then .ok (.tup a.1, a.2) else .bad := (rfl)
@[simp] theorem r_eLst (m : Bool) (g : AV) : eLst m g env st = (g env st).bind fun a => if a.1.length ≤ LIM then newL m a.1 a.2 else .bad := (rfl)
@[simp] theorem r_sNext : sNext env st = .nx env st := (rfl)
@[simp] theorem r_sCons (f g : SV) : sCons f g env st = (f env st).andThen g := by unfold sCons SR.andThen; cases f env st <;> rfl
@[simp] theorem r_sExpr (f : EV) : sExpr f env st = sOf (f env st) fun a => .nx env a.2 := (rfl)
@[simp] theorem r_sRet (f : EV) : sRet f env st = sOf (f env st) fun a => .rt a.1 a.2 := (rfl)
@[simp] theorem r_sIf (t : TV) (f g : SV) : sIf t f g env st = (t env st).ifS f g env := by unfold sIf R.ifS sOf; cases t env st <;> rfl
@[simp] theorem r_sBad : sBad env st = .bad := (rfl)
@[simp] theorem r_sAsg (f : EV) (g : GV) : sAsg f g env st = sOf (f env st) fun a => sOf (g a.1 env a.2) fun b => .nx b.1 b.2 := (rfl)
@[simp] theorem r_sPar (i j : Nat) (f : AV) : sPar i j f env st = sOf (f env st) fun a => match a.1 with
  | [d, e] => .nx ((env.set i (some d)).set j (some e)) a.2
  | _ => .bad := (rfl)
@[simp] theorem r_sPar3 (i j l : Nat) (f : AV) : sPar3 i j l f env st = sOf (f env st) fun a => match a.1 with
  | [d, e, c] => .nx (((env.set i (some d)).set j (some e)).set l (some c)) a.2
  | _ => .bad := (rfl)
@[simp] theorem r_gN (i : Nat) (d : D) : gN i d env st = .ok (env.set i (some d), st) := (rfl)
@[simp] theorem r_gsNil : gsNil [] env st = .ok (env, st) := (rfl)
@[simp] theorem r_gsCons (g : GV) (h : GVs) (d : D) (ds : List D) : gsCons g h (d :: ds) env st = (g d env st).bind fun a => h ds a.1 a.2 := (rfl)
@[simp] theorem r_gTp (n : Nat) (h : GVs) (ds : List D) : gTp n h (.tup ds) env st = if ds.length = n then h ds env st else .bad := (rfl)
@[simp] theorem r_gSb (fo fi : EV) (g : SetV) (d : D) : gSb fo fi g d env st = (fo env st).bind fun a => (fi env a.2).bind fun b => match g b.2 a.1 b.1 d with
  | some st' => .ok (env, st')
  | none => .bad := (rfl)
@[simp] theorem r_iSeq (f : EV) : iSeq f env st = (f env st).bind fun a => match itemsOf a.2 a.1 with
  | some w => .ok (w, a.2)
  | none => .bad := (rfl)
@[simp] theorem r_sFor (it : IV) (g : GV) (b : SV) : sFor it g b env st = (it env st).forS g b env := by unfold sFor R.forS sOf; cases it env st <;> rfl
@[simp] theorem r_tYesD : tYesD env st = .ok (true, st) := (rfl)
@[simp] theorem r_eLc (m : Bool) (it : IV) (vs : List Nat) (t : Tg1) (tt : TV) (te : EV) : eLc m it vs t tt te env st = (it env st).lcS m t tt te (wipeD env vs) := by unfold eLc R.lcS R.bind; cases it env st <;> rfl
@[simp] theorem r_iR1 (g : AV) : iR1 g env st = (g env st).bind fun a => match a.1 with
  | [.int n] => if -1000000 ≤ n ∧ n ≤ 1000000 then .ok ((intsD 0 n.toNat, []), a.2) else .bad
  | _ => .bad := (rfl)
@[simp] theorem r_iR2 (g : AV) : iR2 g env st = (g env st).bind fun a => match a.1 with
  | [.int i, .int n] => if (-1000000 ≤ i ∧ i ≤ 1000000) ∧ -1000000 ≤ n ∧ n ≤ 1000000 then .ok ((intsD i (n - i).toNat, []), a.2) else .bad
  | _ => .bad := (rfl)
@[simp] theorem r_iEn (g : AV) : iEn g env st = (g env st).bind fun a => match a.1 with
  | [d] => match listOf a.2 d with
    | some w => .ok ((pairUp w.1, w.2), a.2)
    | none => .bad
  | _ => .bad := (rfl)
@[simp] theorem r_iZp (g : AV) : iZp g env st = (g env st).bind fun a => match a.1 with
  | [d, e] => match listOf a.2 d, listOf a.2 e with
    | some w, some w' => .ok ((zipUp w.1 w'.1, w.2 ++ w'.2), a.2)
    | _, _ => .bad
  | _ => .bad := (rfl)
@[simp] theorem r_eCall (n : Nat) (g : FV) (ga : AV) : eCall n g ga env st = (ga env st).bind fun a => if a.1.length = n then g a.1 a.2 else .bad := (rfl)
@[simp] theorem r_eB (g : GA) (ga : AV) : eB g ga env st = (ga env st).bind fun a => g a.2 a.1 := (rfl)
@[simp] theorem r_eIs (T : String) (f : EV) : eIs T f env st = (f env st).bind fun a => isG1 T a.2 [a.1] := (rfl)
@[simp] theorem r_eMt (T : String) (g : GM) (fo : EV) (ga : AV) : eMt T g fo ga env st = (fo env st).bind fun o => if tyM o.2 o.1 = some T then (ga env o.2).bind fun a => g a.2 o.1 a.1 else .bad := (rfl)
@[simp] theorem r_eSl (m : Bool) (f : EV) (l h : Env → Store → R (Option Int × Store)) : eSl m f l h env st = (f env st).bind fun a => (l env a.2).bind fun b => (h env b.2).bind fun c => slG m c.2 a.1 b.1 c.1 := (rfl)
@[simp] theorem r_poNone : poNone env st = .ok (none, st) := (rfl)
@[simp] theorem r_poSome (f : EV) : poSome f env st = (f env st).bind fun a => match a.1 with
  | .int i => .ok (some i, a.2)
  | _ => .bad := (rfl)
@[simp] theorem r_eNeg (f : EV) : eNeg f env st = (f env st).bind fun a => match a.1 with
  | .int i => .ok (.int (-i), a.2)
  | _ => .bad := (rfl)
@[simp] theorem r_eFld (c : Nat) (f : Str) (fo : EV) : eFld c f fo env st = (fo env st).bind fun o => match o.1 with
  | .ref i => match o.2[i]? with
    | some (.ins c' fs) => if c' = c then (match fs.lookup f with
      | some d => .ok (d, o.2)
      | none => .bad) else .bad
    | _ => .bad
  | _ => .bad := (rfl)
@[simp] theorem r_isG1 (T : String) (d : D) : isG1 T st [d] = match tyOf st d with
    | some t => .ok (.bl (subTy t T), st)
    | none => .bad := (rfl)
end
theorem le_LIM {n : Nat} (h : n ≤ 1000000) : n ≤ LIM := h
theorem lt_LIM {n : Nat} (h : n < 1000000) : n < LIM := h
theorem lcGo_nil {sub : List (Nat × List D)} {t : Tg1} {tt : TV} {te : EV} {env : Env} {acc : List D} {st : Store} (h : still sub st = true) : lcGo sub t tt te env [] acc st = .ok (acc, st) := by
  unfold lcGo; rw [if_pos h]
theorem lcGo_cons {sub : List (Nat × List D)} {t : Tg1} {tt : TV} {te : EV} {env : Env} {d : D} {ds acc : List D} {st : Store} (h : still sub st = true) : lcGo sub t tt te env (d :: ds) acc st = match t.put d env with
    | some env1 => (noX (tt env1 st)).bind fun b => if b.1 = true then (noX (te env1 b.2)).bind fun y => lcGo sub t tt te env ds (acc ++ [y.1]) y.2 else lcGo sub t tt te env ds acc b.2
    | none => .bad := by
  rw [lcGo, if_pos h]
  all_goals rfl
theorem forGo_nil {sub : List (Nat × List D)} {g : GV} {b : SV} {env : Env} {st : Store} (h : still sub st = true) : forGo sub g b [] env st = .nx env st := by
  unfold forGo; rw [if_pos h]
theorem forGo_cons {sub : List (Nat × List D)} {g : GV} {b : SV} {d : D} {ds : List D} {env : Env} {st : Store} (h : still sub st = true) : forGo sub g b (d :: ds) env st = sOf (g d env st) fun a => (match b a.1 a.2 with
      | .nx e s => forGo sub g b ds e s
      | .ct e s => forGo sub g b ds e s
      | .bk e s => .nx e s
      | .rt d s => .rt d s
      | .exc c p s => .exc c p s
      | .bad => .bad) := by
  rw [forGo, if_pos h]
  all_goals rfl
/-- a comprehension that changes nothing -/
theorem lc_pure {sub : List (Nat × List D)} {t : Tg1} {tt : TV} {te : EV} {env : Env} {st : Store} (hs : still sub st = true) (p : D → Bool) (f : D → D) : ∀ (ds acc : List D),
    (∀ d ∈ ds, ∃ env1, t.put d env = some env1 ∧ tt env1 st = .ok (p d, st) ∧ (p d = true → te env1 st = .ok (f d, st))) → lcGo sub t tt te env ds acc st = .ok (acc ++ (ds.filter p).map f, st)
  | [], acc, _ => by rw [lcGo_nil hs]; simp
  | d :: ds, acc, h => by
    obtain ⟨env1, h1, h2, h3⟩ := h d (by simp)
    have ih := fun acc => lc_pure hs p f ds acc fun e he => h e (by simp [he])
    rw [lcGo_cons hs, h1]
    simp only [h2, noX_ok, R.bind_ok]
    cases e : p d with
    | true => simp [h3 e, ih, e]
    | false => simp [ih, e]
theorem lc_map {sub : List (Nat × List D)} {t : Tg1} {te : EV} {env : Env} {st : Store} (hs : still sub st = true) (f : D → D) (ds : List D) (h : ∀ d ∈ ds, ∃ env1, t.put d env = some env1 ∧ te env1 st = .ok (f d, st)) : lcGo sub t tYesD te env ds [] st = .ok (ds.map f, st) := by
  have := lc_pure (tt := tYesD) hs (fun _ => true) f ds [] fun d hd => let ⟨e, a, b⟩ := h d hd; ⟨e, a, rfl, fun _ => b⟩
  rw [this, List.filter_eq_self.mpr (by simp)]
  simp
/-- a loop by its invariant: what is so ahead of the i-th turn -/
theorem for_inv {sub : List (Nat × List D)} {g : GV} {b : SV} (I : Nat → Env → Store → Prop) {ds : List D} {env : Env} {st : Store} (h0 : I 0 env st) (hst : ∀ i env st, i ≤ ds.length → I i env st → still sub st = true)
    (turn : ∀ i d env st, ds[i]? = some d → I i env st → ∃ e1 s1 e2 s2, g d env st = .ok (e1, s1) ∧ (b e1 s1 = .nx e2 s2 ∨ b e1 s1 = .ct e2 s2) ∧ I (i + 1) e2 s2) : ∃ e s, forGo sub g b ds env st = .nx e s ∧ I ds.length e s := by
  have gen : ∀ (es : List D) (i : Nat) (env : Env) (st : Store), i + es.length = ds.length → ds.drop i = es → I i env st → ∃ e s, forGo sub g b es env st = .nx e s ∧ I ds.length e s := by
    intro es
    induction es with
    | nil =>
      intro i env st hl hd hI
      refine ⟨env, st, forGo_nil (hst i env st (by omega) hI), ?_⟩
      have : i = ds.length := by simpa using hl
      rw [← this]; exact hI
    | cons d es ih =>
      intro i env st hl hd hI
      have hi : ds[i]? = some d := by
        have := congrArg (fun l => l[0]?) hd
        simpa using this
      obtain ⟨e1, s1, e2, s2, a1, a2, a3⟩ := turn i d env st hi hI
      obtain ⟨e, s, r1, r2⟩ := ih (i + 1) e2 s2 (by simp at hl; omega) (by
        have : ds.drop (i + 1) = (ds.drop i).drop 1 := by rw [List.drop_drop]
        rw [this, hd]; rfl) a3
      refine ⟨e, s, ?_, r2⟩
      rw [forGo_cons (hst i env st (by simp at hl; omega) hI), a1]
      rcases a2 with a2 | a2 <;> simp [a2, r1]
  exact gen ds 0 env st (by simp) (by simp) h0
/-- a loop that looks for something, and returns or raises -/
theorem for_inv_end {sub : List (Nat × List D)} {g : GV} {b : SV} (I : Nat → Env → Store → Prop) (P : SR → Prop) {ds : List D} {env : Env} {st : Store} (h0 : I 0 env st) (hst : ∀ i env st, i ≤ ds.length → I i env st → still sub st = true)
    (turn : ∀ i d env st, ds[i]? = some d → I i env st → ∃ e1 s1, g d env st = .ok (e1, s1) ∧ ((∃ e2 s2, (b e1 s1 = .nx e2 s2 ∨ b e1 s1 = .ct e2 s2) ∧ I (i + 1) e2 s2) ∨ (∃ e2 s2, b e1 s1 = .bk e2 s2 ∧ P (.nx e2 s2)) ∨ (∃ d s2, b e1 s1 = .rt d s2 ∧ P (.rt d s2)) ∨ (∃ c p s2, b e1 s1 = .exc c p s2 ∧ P (.exc c p s2))))
    (done : ∀ e s, I ds.length e s → P (.nx e s)) : P (forGo sub g b ds env st) := by
  have gen : ∀ (es : List D) (i : Nat) (env : Env) (st : Store), i + es.length = ds.length → ds.drop i = es → I i env st → P (forGo sub g b es env st) := by
    intro es
    induction es with
    | nil =>
      intro i env st hl hd hI
      rw [forGo_nil (hst i env st (by omega) hI)]
      have : i = ds.length := by simpa using hl
      exact done env st (by rw [← this]; exact hI)
    | cons d es ih =>
      intro i env st hl hd hI
      have hi : ds[i]? = some d := by
        have := congrArg (fun l => l[0]?) hd
        simpa using this
      obtain ⟨e1, s1, a1, a2⟩ := turn i d env st hi hI
      rw [forGo_cons (hst i env st (by simp at hl; omega) hI), a1]
      rcases a2 with ⟨e2, s2, a2, a3⟩ | ⟨e2, s2, a2, a3⟩ | ⟨d', s2, a2, a3⟩ | ⟨c, p, s2, a2, a3⟩
      · have r := ih (i + 1) e2 s2 (by simp at hl; omega) (by
          have : ds.drop (i + 1) = (ds.drop i).drop 1 := by rw [List.drop_drop]
          rw [this, hd]; rfl) a3
        rcases a2 with a2 | a2 <;> simpa [a2] using r
      · simpa [a2] using a3
      · simpa [a2] using a3
      · simpa [a2] using a3
  exact gen ds 0 env st (by simp) (by simp) h0
end Dl
namespace Dl
open PySem L2
section
variable {P : Program} {w : World} {W : Wd} {mg : Str → Option Value} {base : Heap} {X : Cx} {E : XK}
/-- the meaning that says nothing -/
def fvBad : FV := fun _ _ => .bad
theorem fn_bad {x : Str} {f : Addr} {fd : FuncData} {ps : List Str} {k n : Nat} (h1 : mg x = some (.ref f)) (h2 : PySem.W.keepIn W.K (.ref f) = true) (h3 : Binds W.K fd ps []) : Fn P w W mg base x k n fvBad :=
  ⟨f, fd, ps, ⟨fun _ _ _ _ ⟨_, _, _, _, _, _, _, _, z⟩ => z.elim, fun _ _ _ _ _ _ _ _ _ _ _ _ _ ⟨_, _, _, _, _, _, _, _, z⟩ => z.elim⟩, h1, h2, h3⟩
theorem dcallR {k n : Nat} {g : FV} {x : Str} {e : Expr} {es : List Expr} {p pos : Pos} {ga : AV} (c : Fn X.prog X.w W X.mg X.base x k n g) (hr : Room k X.A) (hx : Passes (L2.CX X.prog X.w) X E) (ha : DA W X E (e :: es) ga) (hK : X.K = W.K := by rfl) (hg : Gl X x := by rfl)
    (hdb : (x == ("__debug__" : Str)) = false := by decide) (he : starEach (e :: es) X.env = (false, eval e X.env) :: starEach es X.env := by rfl) (hpl : (backTo pos (starEach es X.env)).any (·.1) = false := by rfl) :
    DE W X E (.Call (.Name x p) (e :: es) [] pos) (eCall n g ga) := let ⟨f, fd, ps, F, a, b, c⟩ := c.ex; de_call hK F hr (Nat.le_refl _) hg a b c hx ha hdb he hpl
end
theorem fnE {P : Program} {w : World} {W : Wd} {mg : Str → Option Value} {base : Heap} {x qual : Str} {s : Stmt} {f : Addr} {fd : FuncData} {N ps : List Str} {k n q : Nat} {b : SV} (F : Fun W.K x qual s f fd) (S : FnScope N ps (defScope s)) (hn : ps.length = n) (hq : N.length = q)
    (hbody : ∀ (cdv : Value) (A : Around) (outer : List PySem.Env) (sh : Shared) (H : Hp) (E : XK), Room k (A.deeper (PyProof.Rows.envOfC qual (defScope s) sh.heap.objs.size f cdv)) →
      DB W (cxOf (L2.CX P w) P w W.K mg base N qual (defScope s) f cdv A outer sh H E) E (defBody s) b) : FnOk P w W.K mg base (L2.CX P w) (k + 1) f fd ps (spD W n (funD q b)) := by
  subst hq
  exact fnD F S hn hbody
/-- the law's promise: from a script that the caller holds -/
def spLaw (n : Nat) : Sp := fun vs H Q _ => ∃ (a : Addr) (o : Obj) (ns : List Int), vs = [.ref a] ∧ H a = some (.frz o (.lst (ns.map V.int))) ∧ ns.length ≤ n ∧ ∀ H', Q (.bl true) H'
theorem isTbl_some {o : Option HO} (h : isTbl o = true) : ∃ ps, o = some (.tbl ps) := by
  unfold isTbl at h
  split at h
  · exact ⟨_, rfl⟩
  · cases h
def noTbl (H : Hp) : Hp := fun a => if isTbl (H a) = true then none else H a
theorem noTbl_same (H : Hp) : Same (noTbl H) H := fun a o e => by
  unfold noTbl at e
  split at e
  · cases e
  · exact e
theorem noTbl_ne (H : Hp) (a : Addr) (ps : Array Value) : noTbl H a ≠ some (.tbl ps) := fun e => by
  unfold noTbl at e
  split at e
  · cases e
  · rename_i n
    exact n (by rw [e]; rfl)
theorem noTbl_at {H : Hp} {a : Addr} {o : HO} (e : H a = some o) (n : ∀ ps, o ≠ .tbl ps) : noTbl H a = some o := by
  unfold noTbl
  rw [if_neg fun z => ?_]
  · exact e
  · obtain ⟨ps, q⟩ := isTbl_some z
    rw [e] at q
    exact n ps (Option.some.inj q)
/-- the law's promise, from a script that the caller holds, and empty tables at T -/
def spLawT (T : List Addr) (n : Nat) : Sp := fun vs H Q _ => ∃ (a : Addr) (ns : List Int), vs = [.ref a] ∧ ScrAt H a ns ∧ (∀ P ∈ T, H P = some (.tbl #[])) ∧ ns.length ≤ n ∧ ∀ H', Q (.bl true) H'
theorem law_ofT {P : Program} {w : World} {W : Wd} {mg : Str → Option Value} {base : Heap} {k n : Nat} {g : FV} {f : Addr} {fd : FuncData} {ps : List Str} {T : List Addr} (F : FnOk P w W.K mg base (L2.CX P w) k f fd ps (spD W 1 g))
    (h : ∀ ns : List Int, ns.length ≤ n → ∃ st, g [.scr ns] [] = .ok (.bl true, st)) (hT : ∀ p ∈ W.tabs, p.1 ∈ T) (hL : W.lam = fun _ => none := by rfl) : FnOk P w W.K mg base (L2.CX P w) k f fd ps (spLawT T n) := by
  refine F.imp fun vs H Q E ⟨a, ns, e, hH, hP, hl, hQ⟩ => ?_
  subst e
  have hN : ScrAt (noTbl H) a ns := by
    rcases hH with ⟨o, hH⟩ | hH
    · exact .inl ⟨o, noTbl_at hH fun _ z => by cases z⟩
    · exact .inr (noTbl_at hH fun _ z => by cases z)
  obtain ⟨st, hst⟩ := h ns hl
  refine ⟨fun _ => none, noTbl H, [], [], [.scr ns], ⟨noTbl_same H, fun _ _ z => (by cases z), fun _ _ => rfl, rfl, List.nodup_nil, fun _ m => (by cases m), fun i a o e1 _ => (by simp at e1), ⟨fun t ht => ⟨.nil (hP _ (hT t ht)), ?_, rfl, (by simp)⟩, noTbl_ne H, fun _ _ z => (by cases z)⟩, fun j x caps z _ => (by rw [hL] at z; cases z)⟩, .cons (.scr hN) .nil, rfl, ?_⟩
  · unfold noTbl
    rw [if_pos (by rw [hP _ (hT t ht)]; rfl)]
  · rw [hst]
    intro F' H' r' v s x h1 k
    cases k
    exact hQ _
theorem law_of {P : Program} {w : World} {W : Wd} {mg : Str → Option Value} {base : Heap} {k n : Nat} {g : FV} {f : Addr} {fd : FuncData} {ps : List Str} (F : FnOk P w W.K mg base (L2.CX P w) k f fd ps (spD W 1 g))
    (h : ∀ ns : List Int, ns.length ≤ n → ∃ st, g [.scr ns] [] = .ok (.bl true, st)) (hT : W.tabs = []) (hL : W.lam = fun _ => none := by rfl) : FnOk P w W.K mg base (L2.CX P w) k f fd ps (spLaw n) :=
  (law_ofT (T := []) F h (by rw [hT]; intro p hp; cases hp) hL).imp fun vs H Q E ⟨a, o, ns, e, hH, hl, hQ⟩ => ⟨a, ns, e, .inl ⟨o, hH⟩, fun _ h => (by cases h), hl, hQ⟩
/-- no object of the written part is a list -/
def noList (K : PySem.W.Frag) : Prop := ∀ a o, K.lookup a = some o → o.cls ≠ .type "list"
theorem mem_of_look {A B : Type} [BEq A] [LawfulBEq A] {a : A} {b : B} : ∀ {l : List (A × B)}, l.lookup a = some b → (a, b) ∈ l
  | [], e => by simp at e
  | (x, y) :: l, e => by
    rw [List.lookup_cons] at e
    cases h : a == x with
    | true => rw [h] at e; cases e; rw [eq_of_beq h]; exact List.mem_cons_self
    | false => rw [h] at e; exact List.mem_cons_of_mem _ (mem_of_look e)
def noListB (K : PySem.W.Frag) : Bool := K.all fun p => match p.2.cls with
  | .type s => !(s == "list")
  | _ => true
theorem noList_of {K : PySem.W.Frag} (h : noListB K = true) : noList K := fun a o e z => by
  have m : (a, o) ∈ K := by
    exact mem_of_look e
  have q := List.all_eq_true.mp h _ m
  simp only at q
  rw [z] at q
  revert q
  decide +kernel
theorem law_walk {l : PySem.W.OpenLaw} {n k : Nat} {q : Program} {loose : List Str} {XP : (Str → Option Value) → Heap → Prop} {YP : World → Heap → Prop} {d : DefRec} {K : Params → PySem.W.Frag} {x : Str} (hn : l.most = some n) (hn2 : n ≤ sizeLine) (hdf : d.params.defaults = []) (hr : Room k callerA)
    (hL : ∀ w : World, noList (K w.params))
    (hY : ∀ (w : World) (h : Heap), YP w h → (K w.params).In h)
    (F : ∀ (w : World) (mg : Str → Option Value) (fa : Addr) (h : Heap), (K w.params).In h → h.Ns mainGlobals mg → mg d.name = some (.ref fa) →
      ∃ fd : FuncData, (∀ (s : Shared) (u : Value), BindsTo s fd ⟨[u], []⟩ [(x, u)]) ∧ ∀ base : Heap, (K w.params).In base → base.Ns mainGlobals mg → FnOk l.prog w (K w.params) mg base (L2.CX l.prog w) k fa fd [x] (spLaw n)) :
    PySem.W.WalkO q loose XP YP l.row.toRowW d [] (fun f vs => PySem.call f vs) :=
  L2.walk_of (n := n) (k := k) (x := x) (CX := fun w => L2.CX l.prog w) (sp := fun _ => spLaw n) hn hn2 hdf hr hY F (fun w H a ns hl hO hS => by
    rcases hS with hS | ⟨o, its, m, h1, h2, _⟩
    · rcases hS with hS | ⟨o, hS⟩
      · rcases hO a with z | ⟨o, xs, z⟩
        · rw [hS] at z; cases z
        · rw [hS] at z; cases z
      · exact ⟨a, o, ns, rfl, hS, hl, fun _ => rfl⟩
    · exact absurd h2 (hL w a o h1)) fun _ _ _ _ _ ⟨_, _, _, _, _, _, _, _, _, _, _, _, z⟩ => z
end Dl
namespace Dl
open PySem L2
section
variable {κ : Type} [DecidableEq κ]
/-- what stands at a key -/
def valK (kvs : List (κ × D)) (k : κ) : Option D := (kvs.find? fun kv => decide (kv.1 = k)).map (·.2)
/-- a key's new value, at the old place or at the end -/
def putKD (kvs : List (κ × D)) (k : κ) (v : D) : List (κ × D) :=
  if kvs.any (fun kv => decide (kv.1 = k)) then kvs.map (fun kv => if kv.1 = k then (kv.1, v) else kv) else kvs ++ [(k, v)]
theorem valK_cons (p : κ × D) (r : List (κ × D)) (k : κ) : valK (p :: r) k = if p.1 = k then some p.2 else valK r k := by
  by_cases h : p.1 = k <;> simp [valK, List.find?_cons, h]
theorem valK_repl (k j : κ) (y : D) : ∀ kvs : List (κ × D), valK (kvs.map fun kv => if kv.1 = k then (kv.1, y) else kv) j = (valK kvs j).map fun x => if j = k then y else x
  | [] => rfl
  | p :: r => by
    rw [List.map_cons, valK_cons, valK_cons, valK_repl k j y r]
    by_cases h : p.1 = k
    · by_cases h2 : p.1 = j
      · have : j = k := h2.symm.trans h
        simp [h, this]
      · have : ¬ k = j := fun z => h2 (h.trans z)
        simp [h, this]
    · by_cases h2 : p.1 = j
      · have : ¬ j = k := fun z => h (h2.trans z)
        simp [h2, this]
      · simp [h, h2]
theorem valK_app (k j : κ) (y : D) : ∀ kvs : List (κ × D), valK (kvs ++ [(k, y)]) j = match valK kvs j with
    | some x => some x
    | none => if k = j then some y else none
  | [] => by rw [List.nil_append, valK_cons]; rfl
  | p :: r => by
    rw [List.cons_append, valK_cons, valK_cons, valK_app k j y r]
    by_cases h : p.1 = j <;> simp [h]
theorem valK_any (k : κ) : ∀ kvs : List (κ × D), kvs.any (fun kv => decide (kv.1 = k)) = (valK kvs k).isSome
  | [] => rfl
  | p :: r => by
    rw [List.any_cons, valK_any k r, valK_cons]
    by_cases h : p.1 = k <;> simp [h]
theorem valK_put (kvs : List (κ × D)) (k j : κ) (y : D) : valK (putKD kvs k y) j = if j = k then some y else valK kvs j := by
  unfold putKD
  rw [valK_any]
  cases h : valK kvs k with
  | some x =>
    simp only [Option.isSome_some, if_true]
    rw [valK_repl]
    by_cases z : j = k
    · subst z; simp [h]
    · simp [z]
  | none =>
    simp only [Option.isSome_none, Bool.false_eq_true, if_false]
    rw [valK_app]
    by_cases z : j = k
    · subst z; simp [h]
    · rw [if_neg z, if_neg (Ne.symm z)]
      cases valK kvs j <;> rfl
theorem putKD_len (kvs : List (κ × D)) (k : κ) (v : D) : (putKD kvs k v).length ≤ kvs.length + 1 := by
  unfold putKD
  split <;> simp
section
variable {F : Hp} {r : List Addr}
theorem KVr.val {k : κ} {d : D} : ∀ {vs : List (κ × V)} {kvs : List (κ × D)}, KVr F r vs kvs → valK kvs k = some d → ∃ v, valV vs k = some v ∧ Rep F r v d
  | [], [], _, e => by cases e
  | (f, v) :: vs, (g, d') :: kvs, ⟨e, h, q⟩, z => by
    subst e
    rw [valK_cons] at z
    by_cases hk : f = k
    · rw [if_pos hk] at z
      cases z
      exact ⟨v, valV_pos hk, h⟩
    · rw [if_neg hk] at z
      rw [valV_neg hk]
      exact KVr.val q z
  | [], _ :: _, h, _ => h.elim
  | _ :: _, [], h, _ => h.elim
theorem KVr.valN {k : κ} : ∀ {vs : List (κ × V)} {kvs : List (κ × D)}, KVr F r vs kvs → valK kvs k = none → valV vs k = none
  | [], [], _, _ => rfl
  | (f, v) :: vs, (g, d') :: kvs, ⟨e, h, q⟩, z => by
    subst e
    rw [valK_cons] at z
    by_cases hk : f = k
    · rw [if_pos hk] at z; cases z
    · rw [if_neg hk] at z
      rw [valV_neg hk]
      exact KVr.valN q z
  | [], _ :: _, h, _ => h.elim
  | _ :: _, [], h, _ => h.elim
/-- what is looked up, and its data -/
def RelK (F : Hp) (r : List Addr) : Option D → Option V → Prop
  | none, ov => ov = none
  | some d, ov => ∃ v, ov = some v ∧ Rep F r v d
theorem KVr.rel {k : κ} {vs : List (κ × V)} {kvs : List (κ × D)} (h : KVr F r vs kvs) : RelK F r (valK kvs k) (valV vs k) := by
  cases e : valK kvs k with
  | none => exact h.valN e
  | some d => exact h.val e
theorem KVr.any {k : κ} : ∀ {vs : List (κ × V)} {kvs : List (κ × D)}, KVr F r vs kvs → vs.any (fun kv => decide (kv.1 = k)) = kvs.any (fun kv => decide (kv.1 = k))
  | [], [], _ => rfl
  | (f, v) :: vs, (g, d') :: kvs, ⟨e, h, q⟩ => by
    subst e
    rw [List.any_cons, List.any_cons, KVr.any q]
  | [], _ :: _, h => h.elim
  | _ :: _, [], h => h.elim
theorem KVr.len : ∀ {vs : List (κ × V)} {kvs : List (κ × D)}, KVr F r vs kvs → vs.length = kvs.length
  | [], [], _ => rfl
  | (f, v) :: vs, (g, d') :: kvs, ⟨_, _, q⟩ => by simp [KVr.len q]
  | [], _ :: _, h => h.elim
  | _ :: _, [], h => h.elim
theorem KVr.repl {k : κ} {w : V} {e : D} (hw : Rep F r w e) : ∀ {vs : List (κ × V)} {kvs : List (κ × D)}, KVr F r vs kvs → KVr F r (vs.map fun kv => if kv.1 = k then (kv.1, w) else kv) (kvs.map fun kv => if kv.1 = k then (kv.1, e) else kv)
  | [], [], _ => trivial
  | (f, v) :: vs, (g, d') :: kvs, ⟨z, h, q⟩ => by
    subst z
    rw [List.map_cons, List.map_cons]
    by_cases hk : f = k
    · simp only [hk, if_true]
      exact ⟨rfl, hw, KVr.repl hw q⟩
    · simp only [hk, if_false]
      exact ⟨rfl, h, KVr.repl hw q⟩
  | [], _ :: _, h => h.elim
  | _ :: _, [], h => h.elim
theorem KVr.snoc {k : κ} {w : V} {e : D} (hw : Rep F r w e) : ∀ {vs : List (κ × V)} {kvs : List (κ × D)}, KVr F r vs kvs → KVr F r (vs ++ [(k, w)]) (kvs ++ [(k, e)])
  | [], [], _ => ⟨rfl, hw, trivial⟩
  | (f, v) :: vs, (g, d') :: kvs, ⟨z, h, q⟩ => ⟨z, h, KVr.snoc hw q⟩
  | [], _ :: _, h => h.elim
  | _ :: _, [], h => h.elim
theorem KVr.put {k : κ} {w : V} {e : D} (hw : Rep F r w e) {vs : List (κ × V)} {kvs : List (κ × D)} (h : KVr F r vs kvs) : KVr F r (putK vs k w) (putKD kvs k e) := by
  unfold putK putKD
  rw [h.any]
  split
  · exact h.repl hw
  · exact h.snoc hw
end
end
def keysOf : List D → Option (List L2.Key)
  | [] => some []
  | .int i :: ds => (keysOf ds).map (Sum.inl i :: ·)
  | .str s :: ds => (keysOf ds).map (Sum.inr ⟨s.toArray⟩ :: ·)
  | _ => none
@[simp] theorem keysOf_nil : keysOf [] = some [] := rfl
@[simp] theorem keysOf_int (i : Int) (ds : List D) : keysOf (.int i :: ds) = (keysOf ds).map (Sum.inl i :: ·) := rfl
@[simp] theorem keysOf_str (s : List Nat) (ds : List D) : keysOf (.str s :: ds) = (keysOf ds).map (Sum.inr ⟨s.toArray⟩ :: ·) := rfl
theorem keysOf_ok {F : Hp} {r : List Addr} : ∀ {ds : List D} {vs : List V} {ks : List L2.Key}, Reps F r vs ds → keysOf ds = some ks → vs = ks.map kV
  | [], _, _, .nil, e => by cases e; rfl
  | .int i :: ds, _, ks, .cons h t, e => by
    rw [keysOf_int] at e
    cases q : keysOf ds with
    | none => rw [q] at e; cases e
    | some ks' =>
      rw [q] at e; cases e
      cases h
      rw [keysOf_ok t q]; rfl
  | .str s :: ds, _, ks, .cons h t, e => by
    rw [keysOf_str] at e
    cases q : keysOf ds with
    | none => rw [q] at e; cases e
    | some ks' =>
      rw [q] at e; cases e
      cases h
      rw [keysOf_ok t q]; rfl
  | .non :: ds, _, ks, _, e => by cases e
  | .bl _ :: ds, _, ks, _, e => by cases e
  | .tup _ :: ds, _, ks, _, e => by cases e
  | .lst _ :: ds, _, ks, _, e => by cases e
  | .ref _ :: ds, _, ks, _, e => by cases e
  | .scr _ :: ds, _, ks, _, e => by cases e
  | .exn _ _ :: ds, _, ks, _, e => by cases e
/-- what the dict d holds at the key e; none where no word is said -/
def dvalG (st : Store) (d e : D) : Option (Option D) := match d with
  | .ref n => match st[n]? with
    | some (.dT kvs) => match e with
      | .tup ks => (keysOf ks).map (valK kvs)
      | _ => none
    | some (.dK kvs) => match e with
      | .int i => some (valK kvs (.inl i))
      | .str s => some (valK kvs (.inr ⟨s.toArray⟩))
      | _ => none
    | _ => none
  | _ => none
theorem dval_ok {W : Wd} {Rs F H : Hp} {r : List Addr} {st : Store} {x y : V} {dx dy : D} {o : Option D} (h : Holds W Rs F H r st) (kx : Rep F r x dx) (ky : Rep F r y dy) (e : dvalG st dx dy = some o) :
    ∃ a ov, x = .ref a ∧ DGet H a y ov ∧ RelK F r o ov := by
  cases kx with
  | @ref a n q =>
    unfold dvalG at e
    simp only at e
    split at e
    · rename_i kvs e1
      obtain ⟨vs, h1, k1⟩ := h.ob n a _ q e1
      cases ky with
      | @tup b vs2 ds qb kb =>
        simp only at e
        cases e2 : keysOf ds with
        | none => rw [e2] at e; cases e
        | some ks =>
          rw [e2] at e
          cases e
          have e3 := keysOf_ok kb e2
          subst e3
          exact ⟨a, _, rfl, DGet.t h1 (h.sF _ _ qb), k1.rel⟩
      | _ => cases e
    · rename_i kvs e1
      obtain ⟨vs, h1, k1⟩ := h.ob n a _ q e1
      cases ky with
      | int i =>
        cases e
        exact ⟨a, _, rfl, DGet.k (k := .inl i) h1, k1.rel⟩
      | str s hs hl =>
        cases e
        exact ⟨a, _, rfl, DGet.k (k := .inr ⟨s.toArray⟩) h1, k1.rel⟩
      | _ => cases e
    · cases e
  | _ => cases e
section
variable {W : Wd} {X : Cx} {E : XK}
theorem hu_of {j : Nat} {A : Around} (hr : Room j A) : A.units + 1 < cLine := by
  have := hr.units
  omega
def dgetG : G2 := fun st d e => match dvalG st d e with
  | some (some v) => .ok (v, st)
  | _ => .bad
theorem de_dget {a b : Expr} {fa fb : EV} {pos : Pos} (hu : X.A.units + 1 < cLine) (ha : DE W X E a fa) (hb : DE W X E b fb) (hs : NoSl b) : DE W X E (.Subscript a b pos) (eOp dgetG fa fb) := by
  obtain ⟨ta, pa, qa⟩ := ha.ex
  obtain ⟨tb, pb, qb⟩ := hb.ex
  refine .mk (pe_dget hu pa pb hs) fun Rs F H rr sg env st Q hH hE hP => eOp_post (rd := fun x y H Q => ∃ a v, x = .ref a ∧ DGet H a y (some v) ∧ Q v H) qa qb ?_ hH hE hP
  intro Rs F H rr st x y dx dy Q E h kx ky hP
  unfold dgetG at hP
  cases e : dvalG st dx dy with
  | none => rw [e] at hP; exact hP.elim
  | some o =>
    rw [e] at hP
    cases o with
    | none => exact hP.elim
    | some d =>
      obtain ⟨a, ov, rfl, g, v, rfl, k⟩ := dval_ok h kx ky e
      exact ⟨a, v, rfl, g, onE_here h k hP⟩
def dsetG : SetV := fun st o i v => match o with
  | .ref n => match st[n]? with
    | some (.dT kvs) => match i with
      | .tup ks => match keysOf ks with
        | some k => if kvs.length < LIM then some (st.set n (.dT (putKD kvs k v))) else none
        | none => none
      | _ => none
    | some (.dK kvs) => match i with
      | .int j => if kvs.length < LIM then some (st.set n (.dK (putKD kvs (.inl j) v))) else none
      | .str s => if kvs.length < LIM then some (st.set n (.dK (putKD kvs (.inr ⟨s.toArray⟩) v))) else none
      | _ => none
    | _ => none
  | _ => none
def rDPut : V → V → V → Hp → (Hp → Prop) → Prop := fun o i v H Q => ∃ a H', o = .ref a ∧ DPut H a i v H' ∧ Q H'
theorem set_dictD (hu : X.A.units + 1 < cLine) : PSet X rDPut := by
  intro pins s σ H o i v ov iv u Q I ro ri rv h
  obtain ⟨a, H', rfl, g, q⟩ := h
  obtain rfl : ov = Value.ref a := ro
  exact d_setItem hu I g ri rv fun s' I' => ⟨H', I', q⟩
theorem lim_size {n : Nat} (h : n < LIM) : n < sizeLine := Nat.lt_of_lt_of_le h (lim_line (Nat.le_refl _))
theorem dset_dict (hu : X.A.units + 1 < cLine) : DSet W X dsetG := ⟨_, set_dictD hu, fun Rs F H r st o i v dO di dv N hH ko ki kv st' e hN => by
  cases ko with
  | @ref a n q =>
    unfold dsetG at e
    simp only at e
    split at e
    · rename_i kvs e1
      obtain ⟨vs, h1, k1⟩ := hH.ob n a _ q e1
      cases ki with
      | @tup b vs2 ds qb kb =>
        simp only at e
        cases e2 : keysOf ds with
        | none => rw [e2] at e; cases e
        | some ks =>
          rw [e2] at e
          simp only at e
          split at e
          · rename_i hl
            cases e
            have e3 := keysOf_ok kb e2
            subst e3
            exact ⟨a, _, rfl, DPut.t h1 (hH.sF _ _ qb) (by rw [k1.len]; exact lim_size hl), hN _ (hH.write q ⟨_, upd_same, k1.put kv⟩)⟩
          · cases e
      | _ => cases e
    · rename_i kvs e1
      obtain ⟨vs, h1, k1⟩ := hH.ob n a _ q e1
      cases ki with
      | int j =>
        simp only at e
        split at e
        · rename_i hl
          cases e
          exact ⟨a, _, rfl, DPut.k (k := .inl j) h1 (by rw [k1.len]; exact lim_size hl), hN _ (hH.write q ⟨_, upd_same, k1.put kv⟩)⟩
        · cases e
      | str s hs hl0 =>
        simp only at e
        split at e
        · rename_i hl
          cases e
          exact ⟨a, _, rfl, DPut.k (k := .inr ⟨s.toArray⟩) h1 (by rw [k1.len]; exact lim_size hl), hN _ (hH.write q ⟨_, upd_same, k1.put kv⟩)⟩
        · cases e
      | _ => cases e
    · cases e
  | _ => cases e⟩
def eDictT : EV := fun _ st => .ok (.ref st.length, st ++ [.dT []])
def eDictK : EV := fun _ st => .ok (.ref st.length, st ++ [.dK []])
@[simp] theorem r_eDictT (env : Env) (st : Store) : eDictT env st = .ok (.ref st.length, st ++ [.dT []]) := (rfl)
@[simp] theorem r_eDictK (env : Env) (st : Store) : eDictK env st = .ok (.ref st.length, st ++ [.dK []]) := (rfl)
theorem new_at {Rs F H : Hp} {r : List Addr} {st : Store} {p : Addr} {o : HO} {b : Ob} {Q : VK} (hH : Holds W Rs F H r st) (hp : H p = none) (k : ObOk W F (r ++ [p]) (upd H p o) p b) (h : onE W Rs F r Q (.ref st.length, st ++ [b])) : Q (.ref p) (upd H p o) :=
  h F _ _ _ (Same.refl _) (Ext.snoc _ _) (hH.fresh hp k) (.ref (by rw [← hH.len]; simp))
theorem de_dictT {pos : Pos} : DE W X E (.Dict [] [] pos) eDictT :=
  .mk pe_dnewT fun Rs F H r sg env st Q hH hE hP p hp => new_at (b := .dT []) hH hp ⟨[], upd_same, trivial⟩ hP
end
end Dl
namespace Dl
open PySem PySem.Spec PyProof.Rows L2
/-- a tuple and a list, as they stand at each turn, in new pairs -/
def ItM (K : PySem.W.Frag) (a b : Addr) : It where
  go i H := ∃ xs ys : List V, ∃ x y : V, (SqT K H a xs ∧ SqL K H b ys) ∧ xs[i]? = some x ∧ ys[i]? = some y
  yld i H v H' := ∃ T : Addr, ∃ x y : V, (v = .ref T ∧ H T = none ∧ H' = upd H T (.tup [x, y])) ∧ (∀ xs, SqT K H a xs → xs[i]? = some x) ∧ (∀ ys, SqL K H b ys → ys[i]? = some y)
  stop i H := ∃ xs ys : List V, (SqT K H a xs ∧ SqL K H b ys) ∧ (xs.length ≤ i ∨ ys.length ≤ i)
section
variable {prog : Program} {w : World} {A : Around}
/-- a tuple's walk that is at its end -/
theorem overT (hh : A.handled = none) (it t : Addr) (zs : Array Value) (i : Nat) (h : zs.size ≤ i) (P : Nat → Value → Prop) : Draws prog w A it [it, t] i P (fun j hp => (hp.IsTupleIter it t j ∧ hp.IsTuple t zs) ∧ i ≤ j) where
  live _ _ q := by obtain ⟨⟨⟨o, e, _⟩, _⟩, _⟩ := q; exact ⟨o, e⟩
  frame _ _ _ q k := ⟨⟨q.1.1.at (k it (by simp)), q.1.2.at (k t (by simp))⟩, q.2⟩
  item j _ _ _ hj q _ := absurd q.2 (Nat.not_le.mpr hj)
  done _ _ _ q hE := wpAny_nextOf_tuple_end hh q.1.1 q.1.2 (Array.getElem?_eq_none h) hE
/-- a list's walk that is at its end -/
theorem overL (hh : A.handled = none) (it t : Addr) (zs : Array Value) (i : Nat) (h : zs.size ≤ i) (P : Nat → Value → Prop) : Draws prog w A it [it, t] i P (fun j hp => (hp.IsListIter it t j ∧ hp.IsList t zs) ∧ i ≤ j) where
  live _ _ q := by obtain ⟨⟨⟨o, e, _⟩, _⟩, _⟩ := q; exact ⟨o, e⟩
  frame _ _ _ q k := ⟨⟨q.1.1.at (k it (by simp)), q.1.2.at (k t (by simp))⟩, q.2⟩
  item j _ _ _ hj q _ := absurd q.2 (Nat.not_le.mpr hj)
  done _ _ _ q hE := wpAny_nextOf_list_end hh q.1.1 q.1.2 (Array.getElem?_eq_none h) hE
end
theorem nin {x a b : Addr} (h : x ≠ a) (k : x ≠ b) : x ∉ [a, b] := by simp [h, k]
theorem sepM {z TI TO i1 i2 a b : Addr} (D : ZipApart z TI TO i1 i2 a b) : ZipSep2 z TI TO i1 i2 [i1, a] [i2, b] :=
  ⟨D.TIz, D.TOz, D.TITO, D.TIi1, List.mem_cons_self, nin D.i1z.symm D.l1z.symm, nin D.TOi1 D.l1TO.symm, D.TIi2, List.mem_cons_self, nin D.i2z.symm D.l2z.symm, nin D.TOi2 D.l2TO.symm, nin D.i12 D.l2i1.symm, nin D.i12.symm D.l1i2.symm⟩
theorem turn_M {P : Program} {w : World} {K : PySem.W.Frag} {es : List Expr} {n : Nat} {tp : Pos} {a b z TI TO i1 i2 : Addr} (D : ZipApart z TI TO i1 i2 a b) :
    Turn P w K (.Tuple es n tp) (ItM K a b) [z, TI, TO, i1, i2] z (fun i hp => (IsZip hp z TI TO .none ∧ IsPair hp TI (.ref i1) (.ref i2) ∧ ∃ x y, IsPair hp TO x y) ∧ hp.IsTupleIter i1 a i ∧ hp.IsListIter i2 b i) where
  mem := List.mem_cons_self
  obj i hp st c hc := by
    obtain ⟨⟨k1, k2, x, y, k3⟩, ⟨o1, e1, _, d1⟩, o2, e2, _, d2⟩ := st
    simp only [List.mem_cons, List.not_mem_nil, or_false] at hc
    rcases hc with rfl | rfl | rfl | rfl | rfl
    · exact ⟨_, k1, fun _ u => nomatch u⟩
    · exact ⟨_, k2, fun _ u => nomatch u⟩
    · exact ⟨_, k3, fun _ u => nomatch u⟩
    · refine ⟨o1, e1, fun v u => ?_⟩
      rw [d1] at u; cases u
    · refine ⟨o2, e2, fun v u => ?_⟩
      rw [d2] at u; cases u
  keep i hp hp' st k := by
    obtain ⟨⟨k1, k2, x, y, k3⟩, k4, k5⟩ := st
    exact ⟨⟨k z (by simp) _ k1, k TI (by simp) _ k2, x, y, k TO (by simp) _ k3⟩, k4.at (k i1 (by simp)), k5.at (k i2 (by simp))⟩
  item X e1 e2 e3 hcalm i pins s sg H E I fp st gg := by
    subst e1 e2 e3
    obtain ⟨⟨k1, k2, x0, y0, k3⟩, k4, k5⟩ := st
    obtain ⟨xs, ys, x, y, ⟨sx, sy⟩, hx, hy⟩ := gg
    obtain ⟨ts, rt, pt, _⟩ := I.tuple sx
    obtain ⟨ls, rl, pl, _⟩ := I.list sy
    obtain ⟨u, hu, ru⟩ := rt.get hx
    obtain ⟨v, hv, rv⟩ := rl.get hy
    have in1 : i < ts.toArray.size := by simpa using (List.getElem?_eq_some_iff.mp hu).1
    have in2 : i < ls.toArray.size := by simpa using (List.getElem?_eq_some_iff.mp hv).1
    have zs : z < s.heap.objs.size := Heap.lt_size k1
    have hh : X.A.in1.handled = none := I.ok.hd hcalm
    refine wpAny_pyNext_zipD2_item (sepM D) (Draws.tuple (A := X.A.in1) hh i1 a D.l1i1 ts.toArray) (Draws.list (A := X.A.in1) hh i2 b D.l2i2 ls.toArray) k1 k2 k3 ⟨k4, pt⟩ ⟨k5, pl.isList⟩ in1 in2 fun u' v' hp' tk q1 q2 z1 TO1 t1 t2 nT nsz old => ?_
    have hu' : u' = u := by
      have : ts[i]? = some u' := by simpa using q1
      rw [hu] at this; exact (Option.some.inj this).symm
    have hv' : v' = v := by
      have : ls[i]? = some v' := by simpa using q2
      rw [hv] at this; exact (Option.some.inj this).symm
    subst hu' hv'
    refine ⟨_, rfl, wpAny_letOwnedTupleGo_zip (s := { s with heap := hp', toks := tk }) z1 fun hp'' z2 sb => ?_⟩
    have zne : s.heap.objs.size ≠ z := Nat.ne_of_gt zs
    have at'' : hp''.get? s.heap.objs.size = some { cls := .type "tuple", data := .seq #[u', v'] } := (sb.2 _ zne).trans nT
    have two : (2 : Nat) ≤ sizeLine := by decide
    have ok : ObjOk X.prog X.w (upd H s.heap.objs.size (.tup [x, y])) hp'' s.heap.objs.size (.tup [x, y]) := ⟨two, [u', v'], .cons ru (.cons rv .nil), _, at'', rfl, _, rfl⟩
    have J := I.turnedNew (t' := tk) (ch := [z, TI, TO, i1, i2]) (h' := hp'') (fun c o nc e => by
      simp only [List.mem_cons, List.not_mem_nil, or_false, not_or] at nc
      exact (sb.2 c nc.1).trans (old c o nc.1 nc.2.2.1 nc.2.2.2.1 nc.2.2.2.2 e)) fp (Nat.le_refl _) ok
    have up : ∀ (c : Addr) (o : Obj), c ≠ z → hp'.get? c = some o → hp''.get? c = some o := fun c o nc e => (sb.2 c nc).trans e
    refine ⟨.ref s.heap.objs.size, _, J, rfl, ⟨_, x, y, ⟨rfl, I.hok.fresh (Nat.le_refl _), rfl⟩, fun l hl => ?_, fun l hl => ?_⟩, ⟨⟨z2, up _ _ D.TIz (old _ _ D.TIz D.TITO D.TIi1 D.TIi2 k2), u', v', up _ _ D.TOz TO1⟩, t1.1.at fun o e => up _ o D.i1z e, t2.1.at fun o e => up _ o D.i2z e⟩, fun c hc => ?_⟩
    · rw [I.tuple_inj hl sx]; exact hx
    · rw [I.list_inj hl sy]; exact hy
    · have below : c < s.heap.objs.size := by
        simp only [List.mem_cons, List.not_mem_nil, or_false] at hc
        rcases hc with rfl | rfl | rfl | rfl | rfl
        · exact zs
        · exact Heap.lt_size k2
        · exact Heap.lt_size k3
        · obtain ⟨_, e, _⟩ := k4; exact Heap.lt_size e
        · obtain ⟨_, e, _⟩ := k5; exact Heap.lt_size e
      rw [upd_ne (Nat.ne_of_lt below)]
      exact (fp c hc).1
  done X e1 e2 e3 hcalm i pins s sg H E I fp st gg := by
    subst e1 e2 e3
    obtain ⟨⟨k1, k2, x0, y0, k3⟩, k4, k5⟩ := st
    obtain ⟨xs, ys, ⟨sx, sy⟩, hend⟩ := gg
    obtain ⟨ts, rt, pt, _⟩ := I.tuple sx
    obtain ⟨ls, rl, pl, _⟩ := I.list sy
    have n1 := rt.length
    have n2 := rl.length
    have hh : X.A.in1.handled = none := I.ok.hd hcalm
    have fin : ∀ (hp' : Heap) (tk : Nat), (∀ c o, c ≠ z → c ≠ TO → c ≠ i1 → c ≠ i2 → s.heap.get? c = some o → hp'.get? c = some o) → (none : Option Value) = none ∧ Inv X pins sg H { s with heap := hp', toks := tk } := fun hp' tk old =>
      ⟨rfl, I.turnedL (t' := tk) (ch := [z, TI, TO, i1, i2]) (fun c o nc e => by
        simp only [List.mem_cons, List.not_mem_nil, or_false, not_or] at nc
        exact old c o nc.1 nc.2.2.1 nc.2.2.2.1 nc.2.2.2.2 e) fp⟩
    by_cases c1 : xs.length ≤ i
    · have D1 := overT (prog := X.prog) (w := X.w) (A := X.A.in1) hh i1 a ts.toArray i (by simp; omega) fun _ _ => True
      by_cases c2 : ys.length ≤ i
      · exact wpAny_pyNext_zipD2_end (sepM D) D1 (overL (A := X.A.in1) hh i2 b ls.toArray i (by simp; omega) fun _ _ => True) k1 k2 k3 ⟨⟨k4, pt⟩, Nat.le_refl _⟩ ⟨⟨k5, pl.isList⟩, Nat.le_refl _⟩ (Nat.le_refl _) (Nat.le_refl _) (.inl rfl) fin
      · exact wpAny_pyNext_zipD2_end (sepM D) D1 (Draws.list (A := X.A.in1) hh i2 b D.l2i2 ls.toArray) k1 k2 k3 ⟨⟨k4, pt⟩, Nat.le_refl _⟩ ⟨k5, pl.isList⟩ (Nat.le_refl _) (by simp; omega) (.inl rfl) fin
    · have c2 : ys.length ≤ i := hend.resolve_left c1
      exact wpAny_pyNext_zipD2_end (sepM D) (Draws.tuple (A := X.A.in1) hh i1 a D.l1i1 ts.toArray) (overL (A := X.A.in1) hh i2 b ls.toArray i (by simp; omega) fun _ _ => True) k1 k2 k3 ⟨k4, pt⟩ ⟨⟨k5, pl.isList⟩, Nat.le_refl _⟩ (by simp; omega) (Nat.le_refl _) (.inr rfl) fin
  self A i s Q E st h := wpAny_pyIter_zip st.1.1 h
def iZpT (K : PySem.W.Frag) (t : TA) : TI := fun sg H Rr => t sg H fun vs H1 => ∃ a b : Addr, ∃ xs ys : List V, vs = [.ref a, .ref b] ∧ (SqT K H1 a xs ∧ SqL K H1 b ys) ∧ Rr (ItM K a b) H1
theorem pi_zipM {X : Cx} {e e2 : Expr} {t : TA} {p pos tpos : Pos} {es : List Expr} {n : Nat} (hg : Gl X "zip") (hm : X.mg "zip" = none) (ha : PA X [e, e2] t)
    (hs : starEach [e, e2] X.env = (false, eval e X.env) :: starEach [e2] X.env := by rfl) (hpl : (backTo pos (starEach [e2] X.env)).any (·.1) = false := by rfl) :
    PI X (.Tuple es n tpos) (.Call (.Name "zip" p) [e, e2] [] pos) (iZpT X.K t) := by
  constructor
  intro pins s sg H Rr I h
  refine Call_ (ld_blt I hg hm PyProof.Rows.boot_zip (PyProof.Rows.callWith_type1 (thn (ha.run pos pins s sg H _ I h) fun us s1 hus => ?_) hs hpl))
  obtain ⟨vs, H1, I1, r1, a, b, xs, ys, rfl, ⟨sx, sy⟩, q⟩ := hus
  match r1 with
  | .cons ra (.cons rb .nil) =>
    cases ra
    cases rb
    obtain ⟨ts, rt, pt, _⟩ := I1.tuple sx
    obtain ⟨ls, rl, pl, _⟩ := I1.list sy
    have ba : a < s1.heap.objs.size := by obtain ⟨_, e, _⟩ := id pt; exact Heap.lt_size e
    refine zip_begins2 (begins_tuple a ts.toArray) (begins_list b ls.toArray) pt pl.isList fun hp' z1 T1 O1 o1 o2 sz old => wpAny_pyIter_zip z1 ?_
    have I2 : Inv X pins sg H1 { s1 with heap := hp' } := I1.kept (t' := s1.toks) old
    refine ⟨_, _, _, _, H1, rfl, I2, turn_M (PySem.W.ktu_apart s1.heap.objs.size a b ba pl.lt), ⟨⟨z1, T1, _, _, O1⟩, ⟨_, o1, rfl, rfl⟩, _, o2, rfl, rfl⟩, fun c hc => ?_, q⟩
    have ge : s1.heap.objs.size ≤ c := by
      simp only [List.mem_cons, List.not_mem_nil, or_false] at hc
      rcases hc with rfl | rfl | rfl | rfl | rfl <;> omega
    exact I1.fpOk ge (I1.hok.fresh ge)
section
variable {W : Wd} {X : Cx} {E : XK}
theorem drv_zipM {K : PySem.W.Frag} {F0 : Hp} {r0 : List Addr} {a b : Addr} {us : List V} {ds : List D} {w' : Wk} (h : F0 a = some (.tup us)) (hk : Reps F0 r0 us ds)
    (h' : ∀ Rs F H r st, Same F0 F → Ext r0 r → Holds W Rs F H r st → still w'.2 st = true → ∃ vs, H b = some (.lst vs) ∧ Reps F r vs w'.1) : Drv W F0 r0 (ItM K a b) (zipUp ds w'.1, w'.2) := fun i Rs F H r st s x hH hst => by
  have k1 := hk.mono s x
  have h1 : SqT K H a us := .of (hH.sF _ _ (s _ _ h))
  obtain ⟨ws, h2, k2⟩ := h' Rs F H r st s x hH hst
  refine ⟨fun d e => ?_, fun hl => ⟨us, ws, ⟨h1, .of h2⟩, ?_⟩⟩
  · obtain ⟨d1, d2, e1, e2, rfl⟩ := zipUp_at e
    obtain ⟨v1, f1, m1⟩ := k1.get e1
    obtain ⟨v2, f2, m2⟩ := k2.get e2
    refine ⟨⟨us, ws, v1, v2, ⟨h1, .of h2⟩, f1, f2⟩, fun y H' yl => ?_⟩
    obtain ⟨T, z1, z2, ⟨rfl, hT, rfl⟩, yl1, yl2⟩ := yl
    have q1 := yl1 us h1
    have q2 := yl2 ws (.of h2)
    rw [f1] at q1; cases q1
    rw [f2] at q2; cases q2
    obtain ⟨s1, h3⟩ := hH.frozen (o := .tup [v1, v2]) hT
    exact ⟨_, s1, h3, .tup upd_same (.cons (m1.mono s1 (Ext.refl _)) (.cons (m2.mono s1 (Ext.refl _)) .nil))⟩
  · rw [zipUp_len] at hl
    rw [k1.length, k2.length]
    omega
/-- zip of a tuple and a list -/
def iZm (g : AV) : IV := fun env st => (g env st).bind fun a => match a.1 with
  | [.tup ds, e] => match listOf a.2 e with
    | some w' => .ok ((zipUp ds w'.1, w'.2), a.2)
    | none => .bad
  | _ => .bad
theorem di_zipM {e e2 : Expr} {g : AV} {p pos tpos : Pos} {elts : List Expr} {kk : Nat} (hg : Gl X "zip") (hm : X.mg "zip" = none) (ha : DA W X E [e, e2] g)
    (hs : starEach [e, e2] X.env = (false, eval e X.env) :: starEach [e2] X.env := by rfl) (hpl : (backTo pos (starEach [e2] X.env)).any (·.1) = false := by rfl) :
    DI W X E (.Tuple elts kk tpos) (.Call (.Name "zip" p) [e, e2] [] pos) (iZm g) := by
  obtain ⟨t, pa, q⟩ := ha.ex
  refine ⟨_, pi_zipM hg hm pa hs hpl, fun Rs F H r sg env st Q hH hE hP => ?_⟩
  refine q Rs F H r sg env st _ hH hE (bindX hP fun a ea z F1 H1 r1 vs s1 x1 h1 k1 => ?_)
  obtain ⟨ds, st1⟩ := a
  simp only at z
  split at z
  · split at z
    · rename_i us e w' e2
      match k1 with
      | .cons k (.cons k' .nil) =>
        obtain ⟨b, rfl, ⟨ws, h3, k3⟩, hh'⟩ := listOf_ok h1 k' e2
        cases k with
        | tup f kk => exact ⟨_, b, _, ws, rfl, ⟨.of (h1.sF _ _ f), .of h3⟩, z _ F1 H1 r1 s1 x1 h1 (drv_zipM f kk hh')⟩
    · exact z.elim
  · exact z.elim
end
end Dl
namespace Dl
open PySem L2
def ljustL (s : List Nat) (i : Int) : List Nat := s ++ List.replicate (i.toNat - s.length) 32
def ljustG : GM := fun st o ds => match o, ds with
  | .str s, [.int i] => if -1000000 ≤ i ∧ i ≤ 1000000 then .ok (.str (ljustL s i), st) else .bad
  | _, _ => .bad
theorem ljust_mk (s : List Nat) (i : Int) : Txt.ljust ⟨s.toArray⟩ i = ⟨(ljustL s i).toArray⟩ := by
  have hl : (⟨s.toArray⟩ : Str).length = s.length := by simp [Str.length]
  unfold Txt.ljust ljustL
  rw [hl]
  by_cases h : i ≤ s.length
  · rw [if_pos h, show i.toNat - s.length = 0 by omega]
    simp
  · rw [if_neg h]
    unfold Builtin.Str.padded
    congr 1
    apply Array.ext'
    simp
section
variable {W : Wd} {X : Cx} {E : XK}
theorem dm_ljust : DM W X "str.ljust" ljustG := ⟨_, mt_ljust, fun Rs F H rr st v d vs ds Q E h ko k hP => by
  unfold ljustG at hP
  split at hP
  · rename_i s i
    match k with
    | .cons k .nil =>
      cases k
      split at hP
      · rename_i hi
        cases ko with
        | str s hs hsl =>
          have ok : PadOk i = true := by
            unfold PadOk fitsSsize Builtin.Str.tooLong
            have h1 : ¬ i < -(2 ^ 63 : Int) := by omega
            have h2 : ¬ i ≥ (2 ^ 63 : Int) := by omega
            have h3 : ¬ i.toNat > sizeLine := by rw [sizeLine_eq]; omega
            simp [h1, h2, h3]
            omega
          refine ⟨_, i, rfl, rfl, ok, ?_⟩
          rw [ljust_mk]
          refine onE_here h (.str _ ?_ ?_) hP
          · unfold ljustL
            rw [List.all_append, hs, Bool.true_and, List.all_eq_true]
            intro c hc
            rw [(List.mem_replicate.mp hc).2]; decide
          · unfold ljustL LIM at *
            rw [List.length_append, List.length_replicate]
            omega
      · exact hP.elim
  · exact hP.elim⟩
end
end Dl
namespace Dl
open PySem L2
def isDct (st : Store) : D → Bool
  | .ref n => match st[n]? with
    | some (.dT _) => true
    | some (.dK _) => true
    | _ => false
  | _ => false
/-- d.get(k, x) -/
def eGet2 (fo fk fx : EV) : EV := fun env st => (fo env st).bind fun o => if isDct o.2 o.1 = true then (fk env o.2).bind fun k => (fx env k.2).bind fun x => match dvalG x.2 o.1 k.1 with
  | some v => .ok (v.getD x.1, x.2)
  | none => .bad else .bad
@[simp] theorem r_eGet2 (fo fk fx : EV) (env : Env) (st : Store) : eGet2 fo fk fx env st = (fo env st).bind fun o => if isDct o.2 o.1 = true then (fk env o.2).bind fun k => (fx env k.2).bind fun x => match dvalG x.2 o.1 k.1 with
  | some v => .ok (v.getD x.1, x.2)
  | none => .bad else .bad := (rfl)
end Dl
namespace Dl
open PySem L2
section
variable {W : Wd} {X : Cx} {E : XK}
def sRaise (c : Nat) : SV := fun _ st => .exc c none st
@[simp] theorem r_sRaise (c : Nat) (env : Env) (st : Store) : sRaise c env st = .exc c none st := (rfl)
/-- try: b / except ..: hb; what is raised is of the classes cs; n slots -/
def sTry (cs : List Nat) (n : Nat) (b hb : SV) : SV := fun env st => match b env st with
  | .exc c p st' => if c ∈ cs then hb (List.replicate n none) st' else .bad
  | .nx e s => .nx e s
  | .rt d s => .rt d s
  | .bk e s => .bk e s
  | .ct e s => .ct e s
  | .bad => .bad
@[simp] theorem r_sTry (cs : List Nat) (n : Nat) (b hb : SV) (env : Env) (st : Store) : sTry cs n b hb env st = match b env st with
  | .exc c p st' => if c ∈ cs then hb (List.replicate n none) st' else .bad
  | .nx e s => .nx e s
  | .rt d s => .rt d s
  | .bk e s => .bk e s
  | .ct e s => .ct e s
  | .bad => .bad := (rfl)
end
end Dl
namespace Dl
open PySem L2
section
variable {W : Wd} {X : Cx} {E : XK}
def eLR (m : Bool) (f : EV) : EV := fun env st => (f env st).bind fun a => match a.1 with
  | .int n => if 0 ≤ n ∧ n ≤ 1000000 then newL m (intsD 0 n.toNat) a.2 else .bad
  | _ => .bad
@[simp] theorem r_eLR (m : Bool) (f : EV) (env : Env) (st : Store) : eLR m f env st = (f env st).bind fun a => match a.1 with
  | .int n => if 0 ≤ n ∧ n ≤ 1000000 then newL m (intsD 0 n.toNat) a.2 else .bad
  | _ => .bad := (rfl)
end
end Dl
namespace Dl
open PySem PySem.Spec PyProof.Rows L2
/-- the lambda's names: captured ones alone, and globals -/
structure LamStat (N : List Str) (sc : Scope) : Prop where
  kind : sc.kind = .function
  co : sc.isCoroutine = false
  gen : sc.isGenerator = false
  own : ∀ y ∈ sc.names, y.2 ≠ .cell ∧ (y.2 = .local → y.1 ∉ N)
  free : ∀ y, sc.names.lookup y = some .free → y ∈ N
  nd : N.Nodup
abbrev lamE (ld : LamD) (cl : List (Str × Addr)) (L f c' : Addr) : PySem.Env := PySem.W.envX ld.q ld.scope L f (.ref c') cl
/-- the lambda's context, entered at s from X's frames -/
def LX (P : Program) (w : World) (K : PySem.W.Frag) (mg : Str → Option Value) (base : Heap) (A : Around) (stack : List PySem.Env) (N : List Str) (ld : LamD) (cl : List (Str × Addr)) (f c' : Addr) (s : Shared) (H : Hp) (E : XK) : Cx where
  prog := P
  w := w
  K := K
  mg := mg
  base := base
  A := A.deeper (lamE ld cl s.heap.objs.size f c')
  N := N
  s_0 := s
  H_0 := H
  env := lamE ld cl s.heap.objs.size f c'
  outer := stack
  stack := lamE ld cl s.heap.objs.size f c' :: stack
  ex := []
  fn := fun _ => false
  calm := true
  pn := []
  xe := fun e s' => wpAny (model P w) (A.deeper (lamE ld cl s.heap.objs.size f c')) (leaving (lamE ld cl s.heap.objs.size f c') e) (fun _ s'' => L2.CX P w stack H s E e s'') (fun e' s'' => L2.CX P w stack H s E e' s'') s'
/-- the body's meaning, wherever it runs -/
def BodyOk (P : Program) (w : World) (W : Wd) (mg : Str → Option Value) (base : Heap) (k : Nat) (ld : LamD) (N : List Str) (fb : EV) : Prop :=
  ∀ (lm : Nat → Option LamR) (A : Around) (stack : List PySem.Env) (s : Shared) (H : Hp) (E : XK) (f c' : Addr) (cl : List (Str × Addr)), Room k (A.deeper (lamE ld cl s.heap.objs.size f c')) → DE (W.wl lm) (LX P w W.K mg base A stack N ld cl f c' s H E) E ld.body fb
/-- no parameter need be given: all have a default -/
def Free0 (ld : LamD) : Prop := ∃ xs : List Str, (∀ y ∈ xs, ld.scope.names.lookup y = some .local) ∧ ∀ (s : Shared) (cl : List (Str × Addr)) (doc pm cv ctv dV : Value) (dv : List Value), dv.length = ld.params.defaults.length →
  ((dV = .none ∧ dv = []) ∨ dv ≠ [] ∧ ∃ T, dV = .ref T ∧ s.heap.get? T = some (PySem.W.kdv_tup dv)) → BindsTo s (PySem.W.kdv_fn "<lambda>" ld.q ld.params (.expr ld.body) ld.scope cl dV doc pm cv ctv) ⟨[], []⟩ (xs.zip dv)
end Dl
namespace Dl
open PySem PySem.Spec PyProof.Rows L2 PySem.W PySem.Calls
end Dl
namespace Dl
open PySem L2
section
variable {W : Wd} {X : Cx} {E : XK}
/-- raise C(i) -/
def sRaiseP (c : Nat) (f : EV) : SV := fun env st => sOf (f env st) fun a => match a.1 with
  | .int i => .exc c (some (.int i)) a.2
  | _ => .bad
@[simp] theorem r_sRaiseP (c : Nat) (f : EV) (env : Env) (st : Store) : sRaiseP c f env st = sOf (f env st) fun a => match a.1 with
  | .int i => .exc c (some (.int i)) a.2
  | _ => .bad := (rfl)
end
end Dl
namespace Dl
open PySem L2
section
variable {W : Wd} {Rs F H F' H' : Hp} {r r' : List Addr} {st st' : Store} {cs : List Addr}
/-- other cells are known -/
def LamEq (lm lm' : Nat → Option LamR) : Prop := ∀ (j : Nat) (x : LamR), lm j = some x → ∃ x' : LamR, lm' j = some x' ∧ x'.ld = x.ld ∧ x'.cl = x.cl ∧ x'.pos = x.pos
theorem ObOk.lam {lm' : Nat → Option LamR} {a : Addr} (e : LamEq W.lam lm') : ∀ {o : Ob}, ObOk W F r H a o → ObOk (W.wl lm') F r H a o
  | .lst _, h => h
  | .ins _ _, h => h
  | .dK _, h => h
  | .dT _, h => h
  | .dead, h => h
  | .fn j, ⟨x, P, c', ps, h1, h2, h3, h4, h5⟩ => by
    obtain ⟨x', q1, q2, q3, q4⟩ := e j x h1
    exact ⟨x', P, c', ps, q1, by rw [q2]; exact h2, h3, by rw [q4]; exact h4, by rw [q2, q3]; exact h5⟩
theorem Holds.lam {lm' : Nat → Option LamR} (h : Holds W Rs F H r st) (e : LamEq W.lam lm') (k : KnOk lm' Rs F r) : Holds (W.wl lm') Rs F H r st :=
  ⟨h.sF, h.sR, h.dj, h.len, h.nd, h.own, fun i a o e1 e2 => (h.ob i a o e1 e2).lam e, h.tb, k⟩
end
/-- a lambda that stands aside; what it keeps -/
structure ClosR (P : Program) (w : World) (W : Wd) (mg : Str → Option Value) (base : Heap) (k : Nat) (Rs F : Hp) (r : List Addr) (fb : EV) (caps : List D) (f : Addr) : Prop where
  ex : ∃ (ld : LamD) (N : List Str) (cl : List (Str × Addr)) (c' : Addr) (us : List Value) (vs : List V), BodyOk P w W mg base k ld N fb ∧ Free0 ld ∧ LamStat N ld.scope ∧ FnStd Rs ld cl c' f ∧
    (Rs c' = some (LamX.CodeO c' ld.q) ∨ F c' = some (LamX.CodeO c' ld.q)) ∧ CellsAt Rs N cl us ∧ Vals vs us ∧ Reps F r vs caps
theorem ClosR.mono {P : Program} {w : World} {W : Wd} {mg : Str → Option Value} {base : Heap} {k : Nat} {Rs F F' : Hp} {r r' : List Addr} {fb : EV} {caps : List D} {f : Addr} (c : ClosR P w W mg base k Rs F r fb caps f) (s : Same F F') (x : Ext r r') : ClosR P w W mg base k Rs F' r' fb caps f := by
  obtain ⟨ld, N, cl, c', us, vs, h1, h2, h3, h4, h5, h6, h7, h8⟩ := c.ex
  exact ⟨ld, N, cl, c', us, vs, h1, h2, h3, h4, h5.imp id (s _ _), h6, h7, h8.mono s x⟩
/-- isinstance(e, ..): e in slot i, as the suite holds it -/
def eIsX (a : Nat) (o : Option (Nat × Str × Int)) (i : Nat) (b : Bool) : EV := fun env st => match env[i]? with
  | some (some (.exn a' o')) => if a' = a ∧ o' = o then .ok (.bl b, st) else .bad
  | _ => .bad
/-- e.f -/
def eXf (a : Nat) (o : Option (Nat × Str × Int)) (i : Nat) (f : Str) : EV := fun env st => match env[i]? with
  | some (some (.exn a' o')) => if a' = a ∧ o' = o then (match o with
    | some (_, g, k) => if g = f then .ok (.int k, st) else .bad
    | none => .bad) else .bad
  | _ => .bad
@[simp] theorem r_eIsX (a : Nat) (o : Option (Nat × Str × Int)) (i : Nat) (b : Bool) (env : Env) (st : Store) : eIsX a o i b env st = match env[i]? with
  | some (some (.exn a' o')) => if a' = a ∧ o' = o then .ok (.bl b, st) else .bad
  | _ => .bad := (rfl)
@[simp] theorem r_eXf (a : Nat) (o : Option (Nat × Str × Int)) (i : Nat) (f : Str) (env : Env) (st : Store) : eXf a o i f env st = match env[i]? with
  | some (some (.exn a' o')) => if a' = a ∧ o' = o then (match o with
    | some (_, g, k) => if g = f then .ok (.int k, st) else .bad
    | none => .bad) else .bad
  | _ => .bad := (rfl)
def toldR (cs : List Nat) (hm : Nat → Option D → Store → R (D × Store)) (res : R (D × Store)) : R (D × Store) := match res with
  | .ok a => .ok a
  | .exc c p st => if c ∈ cs then hm c p st else .bad
  | .bad => .bad
@[simp] theorem told_ok (cs : List Nat) (hm : Nat → Option D → Store → R (D × Store)) (a : D × Store) : toldR cs hm (.ok a) = .ok a := (rfl)
@[simp] theorem told_exc (cs : List Nat) (hm : Nat → Option D → Store → R (D × Store)) (c : Nat) (p : Option D) (st : Store) : toldR cs hm (.exc c p st) = if c ∈ cs then hm c p st else .bad := (rfl)
@[simp] theorem told_bad0 (cs : List Nat) (hm : Nat → Option D → Store → R (D × Store)) : toldR cs hm .bad = .bad := (rfl)
end Dl
namespace Dl
open PySem L2
/-- all are told alike -/
def allR (ga : FV) (cs : List Nat) (hm : Nat → Option D → Store → R (D × Store)) (due : D) : List (EV × List D) → Store → R (D × Store)
  | [], st => .ok (.bl true, st)
  | w :: ws, st => (noX (toldR cs hm (w.1 (w.2.map some) st))).bind fun a => (noX (ga [a.1, due] a.2)).bind fun b => match b.1 with
    | .bl true => allR ga cs hm due ws b.2
    | _ => .bad
@[simp] theorem allR_nil (ga : FV) (cs : List Nat) (hm : Nat → Option D → Store → R (D × Store)) (due : D) (st : Store) : allR ga cs hm due [] st = .ok (.bl true, st) := (rfl)
@[simp] theorem allR_cons (ga : FV) (cs : List Nat) (hm : Nat → Option D → Store → R (D × Store)) (due : D) (w : EV × List D) (ws : List (EV × List D)) (st : Store) : allR ga cs hm due (w :: ws) st = (noX (toldR cs hm (w.1 (w.2.map some) st))).bind fun a => (noX (ga [a.1, due] a.2)).bind fun b => match b.1 with
    | .bl true => allR ga cs hm due ws b.2
    | _ => .bad := (rfl)
end Dl
namespace Dl
open PySem PySem.Spec L2
/-- a lambda of X's own, made: what stands aside of it -/
def MadeAt (Rs F : Hp) (ld : LamD) (cl : List (Str × Addr)) (f : Addr) : Prop := ∃ (c' : Addr), FnStd Rs ld cl c' f ∧ (Rs c' = some (LamX.CodeO c' ld.q) ∨ F c' = some (LamX.CodeO c' ld.q))
theorem MadeAt.mono {Rs Rs' F F' : Hp} {ld : LamD} {cl : List (Str × Addr)} {f : Addr} (m : MadeAt Rs F ld cl f) (s : Same Rs Rs') (s' : Same F F') : MadeAt Rs' F' ld cl f := by
  obtain ⟨c', h1, h2⟩ := m
  exact ⟨c', h1.same s, h2.imp (s _ _) (s' _ _)⟩
/-- what the maker's code object must be -/
structure Maker (W : Wd) (X : Cx) (q : Str) : Prop where
  ex : ∃ c P, LamX.TabB X.base X.mg c P ∧ X.env.code = .ref c ∧ (P, q) ∈ W.tabs ∧ ∀ p ∈ W.tabs, p.1 = P → p.2 = q
section
variable {W : Wd} {X : Cx}
/-- the defaults: none, or one whole number -/
def DfOk (X : Cx) (ld : LamD) : Prop := (ld.params.defaults = [] ∧ defaultsOf ld.params X.env = ([], [])) ∨ ∃ i j p, ld.params.defaults = [.Constant (.int i) j p] ∧ ld.params.kw_defaults = []
end
end Dl
namespace Dl
open PySem PySem.Spec L2
/-- a lambda in the context X: its names' slots there -/
structure LamIn (W : Wd) (X : Cx) (k : Nat) (ld : LamD) (N : List Str) (sl : List Nat) (fb : EV) : Prop where
  body : BodyOk X.prog X.w W X.mg X.base k ld N fb
  free0 : Free0 ld
  stat : LamStat N ld.scope
  slot : ∀ (i : Nat) (y : Str), N[i]? = some y → ∃ j, sl[i]? = some j ∧ X.N[j]? = some y ∧ X.env.scope.names.lookup y = some .cell ∧ (y, NameKind.free) ∈ ld.scope.names
  all : ∀ y, (y, NameKind.free) ∈ ld.scope.names → y ∈ N
  len : sl.length = N.length
  maker : Maker W X ld.q
  qu : X.env.qual ++ "<lambda>" = ld.q
  df : DfOk X ld
/-- what slots hold -/
def capsD (env : Env) : List Nat → Option (List D)
  | [] => some []
  | j :: js => match env[j]? with
    | some (some d) => (capsD env js).map (d :: ·)
    | _ => none
@[simp] theorem capsD_nil (env : Env) : capsD env [] = some [] := (rfl)
@[simp] theorem capsD_cons (env : Env) (j : Nat) (js : List Nat) : capsD env (j :: js) = match env[j]? with
    | some (some d) => (capsD env js).map (d :: ·)
    | _ => none := (rfl)
section
variable {W : Wd} {X : Cx} {pins : List (Addr × Obj)} {σ : St} {H : Hp} {s : Shared} {Rs F : Hp} {r : List Addr} {st : Store} {env : Env}
theorem LamIn.has {k : Nat} {ld : LamD} {N : List Str} {sl : List Nat} {fb : EV} (l : LamIn W X k ld N sl fb) (ok : X.Ok) : ∀ y ∈ ld.scope.names, y.2 = .free → ∃ c, X.env.cells.lookup y.1 = some c := fun y hy e => by
  obtain ⟨i, hi⟩ := List.getElem?_of_mem (l.all y.1 (by obtain ⟨y1, y2⟩ := y; cases e; exact hy))
  obtain ⟨j, _, _, hk, _⟩ := l.slot i y.1 hi
  exact ok.has _ (.inl hk)
end
end Dl
namespace Dl
open PySem PySem.Spec L2
/-- a lambda as it's written, and its meaning -/
structure LamW where
  ld : LamD
  pos : Pos
  N : List Str
  sl : List Nat
  fb : EV
def LamW.ex (l : LamW) : PySem.Expr := .Lambda l.ld.params l.ld.body l.ld.scope l.pos
/-- the lambdas' meanings with what they keep -/
def capsAll (env : Env) : List (List Nat × EV) → Option (List (EV × List D))
  | [] => some []
  | l :: ls => match capsD env l.1 with
    | some ds => (capsAll env ls).map ((l.2, ds) :: ·)
    | none => none
@[simp] theorem capsAll_nil (env : Env) : capsAll env [] = some [] := (rfl)
@[simp] theorem capsAll_cons (env : Env) (l : List Nat × EV) (ls : List (List Nat × EV)) : capsAll env (l :: ls) = match capsD env l.1 with
    | some ds => (capsAll env ls).map ((l.2, ds) :: ·)
    | none => none := (rfl)
def eAll (ga : FV) (cs : List Nat) (hm : Nat → Option D → Store → R (D × Store)) (ls : List (List Nat × EV)) (f2 : EV) : EV := fun env st => (f2 env st).bind fun a => match capsAll env ls with
  | some ws => allR ga cs hm a.1 ws a.2
  | none => .bad
@[simp] theorem r_eAll (ga : FV) (cs : List Nat) (hm : Nat → Option D → Store → R (D × Store)) (ls : List (List Nat × EV)) (f2 : EV) (env : Env) (st : Store) : eAll ga cs hm ls f2 env st = (f2 env st).bind fun a => match capsAll env ls with
  | some ws => allR ga cs hm a.1 ws a.2
  | none => .bad := (rfl)
def eTold (cs : List Nat) (hm : Nat → Option D → Store → R (D × Store)) (sl : List Nat) (fb : EV) : EV := fun env st => match capsD env sl with
  | some ds => noX (toldR cs hm (fb (ds.map some) st))
  | none => .bad
@[simp] theorem r_eTold (cs : List Nat) (hm : Nat → Option D → Store → R (D × Store)) (sl : List Nat) (fb : EV) (env : Env) (st : Store) : eTold cs hm sl fb env st = match capsD env sl with
  | some ds => noX (toldR cs hm (fb (ds.map some) st))
  | none => .bad := (rfl)
section
variable {W : Wd} {X : Cx} {E : XK}
theorem PA.imp {es : List PySem.Expr} {t t' : TA} (h : PA X es t) (k : ∀ σ H Q, t' σ H Q → t σ H Q) : PA X es t' := ⟨fun pos pins s σ H Q I q => h.run pos pins s σ H Q I (k _ _ _ q)⟩
end
end Dl
namespace Dl
open PySem PySem.Spec L2
end Dl
namespace Dl
open PySem L2
end Dl
namespace Dl
open PySem PySem.Spec PyProof.Rows L2
end Dl
namespace Dl
open PySem PySem.Spec PySem.Builtin.Str L2
/-- what stands behind the first signs of p -/
def lcut (p : Nat → Bool) (s : List Nat) : List Nat := s.drop (s.takeWhile p).length
def rcut (p : Nat → Bool) (s : List Nat) : List Nat := s.take (s.length - (s.reverse.takeWhile p).length)
def stripL (t s : List Nat) : List Nat := rcut (fun c => t.contains c) (lcut (fun c => t.contains c) s)
def stripG : GM := fun st o ds => match o, ds with
  | .str s, [.str t] => .ok (.str (stripL t s), st)
  | _, _ => .bad
theorem has_mk (t : List Nat) : (⟨t.toArray⟩ : Str).cps.contains = fun c => t.contains c := by
  funext c
  simp
theorem sub_mk (s : List Nat) (i j : Nat) : strSub ⟨s.toArray⟩ i j = ⟨((s.drop i).take (j - i)).toArray⟩ := TL.ext_tl (by
  show (strSub ⟨s.toArray⟩ i j).cps.toList = _
  simp [strSub, TL.tl])
theorem strip_mk (s t : List Nat) : Txt.stripChars ⟨s.toArray⟩ ⟨t.toArray⟩ = ⟨(stripL t s).toArray⟩ := by
  unfold Txt.stripChars
  rw [PyProof.Rows.stripBy_eq, has_mk, sub_mk]
  unfold stripLo stripHi stripL rcut lcut
  rw [if_pos rfl, if_pos rfl, len_mk]
  show (⟨((s.drop (s.takeWhile _).length).take (s.length - ((s.drop (s.takeWhile _).length).reverse.takeWhile _).length - (s.takeWhile _).length)).toArray⟩ : Str) = _
  rw [List.length_drop]
  congr 3
  omega
theorem lcut_sub (p : Nat → Bool) (s : List Nat) : ∀ c ∈ lcut p s, c ∈ s := fun c h => List.mem_of_mem_drop h
theorem rcut_sub (p : Nat → Bool) (s : List Nat) : ∀ c ∈ rcut p s, c ∈ s := fun c h => List.mem_of_mem_take h
theorem lcut_len (p : Nat → Bool) (s : List Nat) : (lcut p s).length ≤ s.length := by unfold lcut; rw [List.length_drop]; omega
theorem rcut_len (p : Nat → Bool) (s : List Nat) : (rcut p s).length ≤ s.length := by unfold rcut; rw [List.length_take]; omega
section
variable {W : Wd} {X : Cx} {E : XK}
theorem dm_strip : DM W X "str.strip" stripG := ⟨_, mt_stripChars, fun Rs F H rr st v d vs ds Q E h ko k hP => by
  unfold stripG at hP
  split at hP
  · rename_i s t
    match k with
    | .cons (.str _ _ _) .nil =>
      cases ko with
      | str s hs hsl =>
        refine ⟨_, _, rfl, rfl, by rw [len_mk]; exact lim_line hsl, ?_⟩
        rw [strip_mk]
        refine onE_here h (.str _ ?_ ?_) hP
        · exact List.all_eq_true.mpr fun c hc => List.all_eq_true.mp hs c (lcut_sub _ _ c (rcut_sub _ _ c hc))
        · exact Nat.le_trans (Nat.le_trans (rcut_len _ _) (lcut_len _ _)) hsl
  · exact hP.elim⟩
end
end Dl
namespace Dl
open PySem PySem.Spec L2
section
variable {W : Wd} {X : Cx} {E : XK}
/-- lambdas at these places -/
def MadesAt (X : Cx) (Rs F : Hp) (ls : List LamW) (fs : List Addr) : Prop := fs.length = ls.length ∧ ∀ (i : Nat) (l : LamW) (f : Addr), ls[i]? = some l → fs[i]? = some f → MadeAt Rs F l.ld (cloFrom X.env.cells l.ld.scope.names []) f
theorem MadesAt.mono {Rs Rs' F F' : Hp} {ls : List LamW} {fs : List Addr} (s : Same Rs Rs') (s' : Same F F') (m : MadesAt X Rs F ls fs) : MadesAt X Rs' F' ls fs := ⟨m.1, fun i l f e1 e2 => (m.2 i l f e1 e2).mono s s'⟩
theorem MadesAt.app {Rs F : Hp} {ls ls' : List LamW} {fs fs' : List Addr} (m : MadesAt X Rs F ls fs) (m' : MadesAt X Rs F ls' fs') : MadesAt X Rs F (ls ++ ls') (fs ++ fs') := by
  refine ⟨by simp [m.1, m'.1], fun i l f e1 e2 => ?_⟩
  by_cases h : i < ls.length
  · rw [List.getElem?_append_left h] at e1
    rw [List.getElem?_append_left (by rw [m.1]; exact h)] at e2
    exact m.2 i l f e1 e2
  · rw [List.getElem?_append_right (by omega)] at e1
    rw [List.getElem?_append_right (by rw [m.1]; omega), m.1] at e2
    exact m'.2 _ l f e1 e2
/-- x = [lambda: .., ..]; if not g(x .., e): a / else: b; .. -/
def sLams (i : Nat) (f : SV) : SV := fun env st => f (env.set i none) st
@[simp] theorem r_sLams (i : Nat) (f : SV) (env : Env) (st : Store) : sLams i f env st = f (env.set i none) st := (rfl)
end
end Dl
namespace Dl
open PySem PySem.Spec PyProof.Rows L2
end Dl
namespace Dl
open PySem L2
section
variable {W : Wd} {X : Cx} {E : XK}
/-- o.f = .. -/
def gFldD (c : Nat) (f : Str) (fo : EV) : GV := fun d env st => (fo env st).bind fun o => match o.1 with
  | .ref i => match o.2[i]? with
    | some (.ins c' fs) => if c' = c ∧ fs.length < 900 then .ok (env, o.2.set i (.ins c' (putD f d fs))) else .bad
    | _ => .bad
  | _ => .bad
@[simp] theorem r_gFldD (c : Nat) (f : Str) (fo : EV) (d : D) (env : Env) (st : Store) : gFldD c f fo d env st = (fo env st).bind fun o => match o.1 with
  | .ref i => match o.2[i]? with
    | some (.ins c' fs) => if c' = c ∧ fs.length < 900 then .ok (env, o.2.set i (.ins c' (putD f d fs))) else .bad
    | _ => .bad
  | _ => .bad := (rfl)
end
end Dl
namespace PySem
open Sem (wp)
open AutoSeq1 (wpAny_loadPart')
end PySem
namespace Dl
open PySem PySem.Spec PyProof.Rows L2
section
variable {W : Wd} {X : Cx} {E : XK}
/-- enumerate of a tuple -/
def iEnT (g : AV) : IV := fun env st => (g env st).bind fun a => match a.1 with
  | [.tup ds] => .ok ((pairUp ds, []), a.2)
  | _ => .bad
@[simp] theorem r_iEnT (g : AV) (env : Env) (st : Store) : iEnT g env st = (g env st).bind fun a => match a.1 with
  | [.tup ds] => .ok ((pairUp ds, []), a.2)
  | _ => .bad := (rfl)
end
end Dl
namespace Dl
open PySem L2
end Dl
namespace Dl
open PySem L2
def min3G : GA := fun st ds => match ds with
  | [.int i, .int j, .int k] => .ok (.int (min i (min j k)), st)
  | _ => .bad
@[simp] theorem min3_at (i j k : Int) (st : Store) : min3G st [.int i, .int j, .int k] = .ok (.int (min i (min j k)), st) := (rfl)
end Dl
namespace Dl
open PySem L2
def keyD : D → Option L2.Key
  | .int i => some (.inl i)
  | .str s => some (.inr ⟨s.toArray⟩)
  | _ => none
abbrev PV := Env → Store → R (List (L2.Key × D) × Store)
def pNil : PV := fun _ st => .ok ([], st)
def pCons (fk fv : EV) (g : PV) : PV := fun env st => (fk env st).bind fun a => (fv env a.2).bind fun b => match keyD a.1 with
  | some k => (g env b.2).bind fun c => .ok ((k, b.1) :: c.1, c.2)
  | none => .bad
@[simp] theorem r_pNil (env : Env) (st : Store) : pNil env st = .ok ([], st) := (rfl)
@[simp] theorem r_pCons (fk fv : EV) (g : PV) (env : Env) (st : Store) : pCons fk fv g env st = (fk env st).bind fun a => (fv env a.2).bind fun b => match keyD a.1 with
  | some k => (g env b.2).bind fun c => .ok ((k, b.1) :: c.1, c.2)
  | none => .bad := (rfl)
variable {W : Wd} {X : Cx} {E : XK}
theorem KVr.cons {κ : Type} {F : Hp} {r : List Addr} {k : κ} {v : V} {d : D} {vs : List (κ × V)} {kvs : List (κ × D)} (h : Rep F r v d) (t : KVr F r vs kvs) : KVr F r ((k, v) :: vs) ((k, d) :: kvs) := by
  first | exact ⟨rfl, h, t⟩ | exact ⟨⟨rfl, h⟩, t⟩
def mergeD (kvs more : List (L2.Key × D)) : List (L2.Key × D) := more.foldl (fun acc kv => putKD acc kv.1 kv.2) kvs
def eDictL (f : PV) : EV := fun env st => (f env (st ++ [.dK []])).bind fun a => match a.2[st.length]? with
  | some (.dK []) => if a.1.length ≤ 15 then .ok (.ref st.length, a.2.set st.length (.dK (mergeD [] a.1))) else .bad
  | _ => .bad
@[simp] theorem r_eDictL (f : PV) (env : Env) (st : Store) : eDictL f env st = (f env (st ++ [.dK []])).bind fun a => match a.2[st.length]? with
  | some (.dK []) => if a.1.length ≤ 15 then .ok (.ref st.length, a.2.set st.length (.dK (mergeD [] a.1))) else .bad
  | _ => .bad := (rfl)
end Dl
namespace Dl
open PySem L2 PyProof.Rows
end Dl
namespace Dl
open PySem L2
end Dl
namespace Dl
open PySem L2
end Dl
namespace Dl
open PySem PySem.Spec PyProof.Rows L2
def isG2 (T U : String) : GA := fun st ds => match ds with
  | [d] => match tyOf st d with
    | some t => .ok (.bl (subTy t T || subTy t U), st)
    | none => .bad
  | _ => .bad
def eIs2 (T U : String) (f : EV) : EV := fun env st => (f env st).bind fun a => isG2 T U a.2 [a.1]
@[simp] theorem r_eIs2 (T U : String) (f : EV) (env : Env) (st : Store) : eIs2 T U f env st = (f env st).bind fun a => match tyOf a.2 a.1 with
  | some t => .ok (.bl (subTy t T || subTy t U), a.2)
  | none => .bad := (rfl)
end Dl
namespace Dl
open PySem L2
def LeS (a b : SR) : Prop := a = b ∨ ∃ c p s, b = .exc c p s
def LeV (f g : SV) : Prop := ∀ env st, LeS (f env st) (g env st)
def LeF (f g : FV) : Prop := ∀ ds st, f ds st = g ds st ∨ ∃ c p s, g ds st = .exc c p s
theorem LeV.refl (f : SV) : LeV f f := fun _ _ => .inl rfl
theorem LeF.refl (f : FV) : LeF f f := fun _ _ => .inl rfl
theorem LeV.raiseP (c : Nat) (f : EV) : LeV sBad (sRaiseP c f) := fun env st => by
  unfold sBad sRaiseP
  cases f env st with
  | ok a =>
    obtain ⟨d, s⟩ := a
    cases d with
    | int i => exact .inr ⟨_, _, _, rfl⟩
    | _ => exact .inl rfl
  | exc c p s => exact .inr ⟨_, _, _, rfl⟩
  | bad => exact .inl rfl
theorem LeV.cons {f f' g g' : SV} (h : LeV f f') (k : LeV g g') : LeV (sCons f g) (sCons f' g') := fun env st => by
  unfold sCons
  rcases h env st with e | ⟨c, p, s, e⟩
  · rw [e]
    cases f' env st with
    | nx e s => exact k e s
    | _ => exact .inl rfl
  · rw [e]
    exact .inr ⟨c, p, s, rfl⟩
theorem LeV.if_ {t : TV} {f f' g g' : SV} (h : LeV f f') (k : LeV g g') : LeV (sIf t f g) (sIf t f' g') := fun env st => by
  unfold sIf
  cases t env st with
  | ok a =>
    obtain ⟨b, s⟩ := a
    cases b with
    | true => exact h env s
    | false => exact k env s
  | exc c p s => exact .inl rfl
  | bad => exact .inl rfl
theorem LeV.go {sub : List (Nat × List D)} {g : GV} {b b' : SV} (h : LeV b b') : ∀ (ds : List D) (env : Env) (st : Store), LeS (forGo sub g b ds env st) (forGo sub g b' ds env st)
  | [], env, st => .inl rfl
  | d :: ds, env, st => by
    unfold forGo
    split
    · cases hg : g d env st with
      | ok a =>
        simp only [sOf_ok]
        rcases h a.1 a.2 with e | ⟨c, p, s, e⟩
        · rw [e]
          cases b' a.1 a.2 with
          | nx e s => exact LeV.go h ds e s
          | ct e s => exact LeV.go h ds e s
          | _ => exact .inl rfl
        · rw [e]
          exact .inr ⟨c, p, s, rfl⟩
      | exc c p s => exact .inl rfl
      | bad => exact .inl rfl
    · exact .inl rfl
theorem LeV.for_ {it : IV} {g : GV} {b b' : SV} (h : LeV b b') : LeV (sFor it g b) (sFor it g b') := fun env st => by
  unfold sFor
  cases it env st with
  | ok a => exact LeV.go h _ _ _
  | exc c p s => exact .inl rfl
  | bad => exact .inl rfl
theorem LeV.call {n : Nat} {m m' : FV} {ga : AV} (h : LeF m m') : LeV (sExpr (eCall n m ga)) (sExpr (eCall n m' ga)) := fun env st => by
  unfold sExpr eCall
  cases ga env st with
  | ok a =>
    simp only [R.bind_ok]
    split
    · rcases h a.1 a.2 with e | ⟨c, p, s, e⟩
      · rw [e]; exact .inl rfl
      · rw [e]; exact .inr ⟨c, p, s, rfl⟩
    · exact .inl rfl
  | exc c p s => exact .inl rfl
  | bad => exact .inl rfl
theorem LeF.fun_ {n : Nat} {f g : SV} (h : LeV f g) : LeF (funD n f) (funD n g) := fun ds st => by
  unfold funD
  rcases h (ds.map some ++ List.replicate (n - ds.length) none) st with e | ⟨c, p, s, e⟩
  · rw [e]; exact .inl rfl
  · rw [e]; exact .inr ⟨c, p, s, rfl⟩
theorem LeF.ok {f g : FV} (h : LeF f g) {ds : List D} {st : Store} {a : D × Store} (e : g ds st = .ok a) : f ds st = .ok a := by
  rcases h ds st with q | ⟨c, p, s, q⟩
  · rw [q, e]
  · rw [e] at q; cases q
end Dl
namespace Dl
open PySem L2
def replG : GM := fun st o ds => match o, ds with
  | .str s, [.str y, .str z] => if 1 ≤ y.length ∧ s.length + (s.length + 1) * z.length ≤ 1000000 then .ok (.str (StrLaws.replL y z s), st) else .bad
  | _, _ => .bad
theorem repl_one (a b : Nat) : ∀ s : List Nat, StrLaws.replL [a] [b] s = s.map fun c => if c = a then b else c
  | [] => StrLaws.replL_nil
  | c :: s => by
    by_cases h : c = a
    · rw [StrLaws.replL_hit (by simp) (by simp [h]), List.map_cons, if_pos h]
      show [b] ++ StrLaws.replL [a] [b] s = _
      rw [repl_one a b s]
      rfl
    · rw [StrLaws.replL_miss (by simp; exact h), List.map_cons, if_neg h, repl_one a b s]
end Dl
namespace Dl
open PySem PySem.Spec L2
open PyProof.Rows hiding St
section
variable {A' : Type} {t : Sem A'} {Q Q' : A' → Shared → Prop} {E : Value → Shared → Prop} {M : Model} {A : Around} {s : Shared} {n : Nat}
/-- what is out stays out -/
theorem thnN (hn : n ≤ s.toks) (h : wpAny M A t Q E s) (k : ∀ a s', n ≤ s'.toks → Q a s' → Q' a s') : wpAny M A t Q' E s :=
  wpAny_mono (wpAny_toks_of hn h) (fun a s' q => k a s' q.1 q.2) fun _ _ e => e.2
end
section
variable {P : Program} {w : World} {K : PySem.W.Frag} {Y : Cx} {tg : PySem.Expr} {J : It} {fp : List Addr} {it : Addr} {tn : Nat → Heap → Prop} {i n : Nat} {h : Heap} {pins : List (Addr × Obj)} {σ : St} {H : Hp} {s : Shared}
/-- behind a turn's body: the iterator is as it was behind its item -/
theorem turn_kept (T : Turn P w K tg J fp it tn) (t : tn i h) (I : Inv Y (pins ++ pinsAt fp h) σ H s) : Inv Y pins σ H s ∧ tn i s.heap ∧ ∀ b ∈ fp, H b = none :=
  have held := fun b (hb : b ∈ fp) o (e : h.get? b = some o) => I.pin (b, o) (by simp [mem_pinsAt hb e])
  ⟨I.unpinned, T.keep _ _ _ t fun b hb o e => (held b hb o e).1, fun b hb => have ⟨o, e, _⟩ := T.obj _ _ t b hb; (held b hb o e).2.1⟩
/-- one item is drawn and stored; the iterator is pinned from then on -/
theorem turn_item {g : TG} {Q : St → Hp → Prop} {E : Value → Shared → Prop} (T : Turn Y.prog Y.w Y.K tg J fp it tn) (calm : Y.calm = true) (dg : PG Y tg g) (pass : ∀ {t : Sem Unit} {R : Unit → Shared → Prop} {z : Shared}, wpAny (model Y.prog Y.w) Y.A t R Y.xe z → wpAny (model Y.prog Y.w) Y.A t R E z)
    (out : n ≤ s.toks) (I : Inv Y pins σ H s) (own : ∀ b ∈ fp, FpOk Y pins H b) (t : tn i s.heap) (go : J.go i H) (step : ∀ x H', J.yld i H x H' → g x σ H' Q) :
    wpAny (model Y.prog Y.w) Y.A (pyNext (.ref it)) (fun r s1 => ∃ u, r = some u ∧ wpAny (model Y.prog Y.w) Y.A (letOwnedTupleGo tg (.ref it) u) (fun _ s2 => wpAny (model Y.prog Y.w) Y.A (assign tg Y.env u)
      (fun _ s3 => n ≤ s3.toks ∧ ∃ h σ' H', tn (i + 1) h ∧ Inv Y (pins ++ pinsAt fp h) σ' H' s3 ∧ Q σ' H') E s2) E s1) E s :=
  thnN out (T.item Y rfl rfl rfl calm i pins s σ H E I own t go) fun _ _ o1 ⟨u, er, h1⟩ => ⟨u, er, thnN o1 h1 fun _ s2 o2 ⟨x, H', I', rx, yl, t', no⟩ =>
    thnN o2 (pass (dg.run _ s2 σ H' x u Q (I'.pinned (fun b hb => ⟨no b hb, (own b hb).2⟩) (T.obj _ _ t')) rx (step x H' yl))) fun _ _ o3 ⟨σ', H'', I'', q⟩ => ⟨o3, s2.heap, σ', H'', t', I'', q⟩⟩
end
section
variable {X : Cx}
/-- for, its body under n tokens -/
theorem for_any {n : Nat} {tg src : PySem.Expr} {bd : List Stmt} {g : TG} {tb : TS} {pos : Pos} {pins : List (Addr × Obj)} {s : Shared} {σ : St} {D : Ends} (hp : PassesOwn (model X.prog X.w) X.A X.env X.xe) (calm : X.calm = true) (dg : PG X tg g)
    (db : ∀ pins s σ H D, n ≤ s.toks → Inv X pins σ H s → tb D σ H → wpAny (model X.prog X.w) X.A (execs bd X.env) (SP X pins D) X.xe s) (fold : ∀ x, foldedSetIterable src X.env x = pure x)
    (begin_ : wpAny (model X.prog X.w) X.A (eval src X.env) (fun v s1 => wpAny (model X.prog X.w) X.A (pyIter v) (fun iv s2 => n ≤ s2.toks ∧ PIE X pins σ tg (fun J H1 => tFor (fun _ _ R => R J H1) g tb D σ H1) iv s2) X.xe s1) X.xe s) :
    wpAny (model X.prog X.w) X.A (exec (.For tg src bd [] pos) X.env) (SP X pins D) X.xe s := by
  refine wpAny_For (thn begin_ fun v s1 h1 => thn h1 fun iv s2 ⟨o2, it, fp, tn, J, H2, eit, I2, T, t2, own, W, ⟨m0, w0⟩, turn⟩ => ?_) fold
  subst eit
  refine codeAny_forLoop_any (fun k z => n ≤ z.toks ∧ ∃ i σ' H', (Inv X pins σ' H' z ∧ tn i z.heap ∧ ∀ b ∈ fp, H' b = none) ∧ W i k σ' H') (fun k z ⟨oz, i, σz, Hz, ⟨Iz, tz, no⟩, wz⟩ => ?_) m0 ⟨o2, 0, σ, H2, ⟨I2, t2, fun b hb => (own b hb).1⟩, w0⟩
  have own' := fun b hb => (⟨no b hb, (own b hb).2⟩ : FpOk X pins Hz b)
  match turn i k σz Hz wz with
  | .inl ⟨stop, q⟩ => exact thn (T.done X rfl rfl rfl calm i pins z σz Hz _ Iz own' tz stop) fun r _ ⟨er, I'⟩ => by rw [er]; exact wpAny_execs_nil ⟨σz, Hz, I', q⟩
  | .inr ⟨go, N, less, step⟩ =>
    refine thn (turn_item T calm dg (wpAny_passesOwn hp) oz Iz own' tz go step) fun r _ ⟨u, er, h1⟩ => ?_
    rw [er]
    refine thn h1 fun _ _ h2 => thn h2 fun _ z3 ⟨o3, h, σ3, H3, t3, I3, q3⟩ => wpAny_passesOwn hp (thnN o3 (db _ z3 σ3 H3 _ o3 I3 q3) fun f z4 o4 q4 => ?_)
    have next_ : ∀ {σ4 H4}, Inv X (pins ++ pinsAt fp h) σ4 H4 z4 → N σ4 H4 → _ := fun {σ4 H4} I4 n4 => have ⟨m, lt, w4⟩ := less _ _ n4; (⟨m, lt, o4, i + 1, σ4, H4, turn_kept T t3 I4, w4⟩ : ∃ m, m < k ∧ n ≤ z4.toks ∧ ∃ i σ' H', (Inv X pins σ' H' z4 ∧ tn i z4.heap ∧ ∀ b ∈ fp, H' b = none) ∧ W i m σ' H')
    match f, q4 with
    | .next, ⟨_, _, I4, n4⟩ => exact next_ I4 n4
    | .cont, ⟨_, _, I4, n4⟩ => exact next_ I4 n4
    | .brk, ⟨σ4, H4, I4, e4⟩ => exact ⟨σ4, H4, I4.unpinned, e4⟩
    | .ret _, ⟨x, σ4, H4, I4, r4, e4⟩ => exact ⟨x, σ4, H4, I4.unpinned, r4, e4⟩
/-- the block's env and context, entered at z -/
abbrev blkE (X : Cx) (scope : Scope) (z : Shared) : PySem.Env := compEnvC scope (cellsFrom (z.heap.objs.size + 1) scope.names (cloFrom X.env.cells scope.names [])) z.heap.objs.size X.env
abbrev Bk (X : Cx) (scope : Scope) (z : Shared) (G : Hp) (fp : List Addr) : Cx := X.blk z G scope (blkE X scope z) fp
section
variable {scope : Scope} {own : List (Str × Nat)} {fp : List Addr} {z s' : Shared} {G H' : Hp} {pins : List (Addr × Obj)} {σ σ' : St}
theorem blk_own (I : Inv (Bk X scope z G fp) [] σ' H' s') (no : ∀ b ∈ fp, H' b = none) : ∀ b ∈ fp, FpOk (Bk X scope z G fp) [] H' b := fun b hb =>
  ⟨no b hb, (I.ok.exf b hb).1, I.ok.exfs b hb, .inl hb, (I.ok.exf b hb).2, fun p q => absurd (show p ∈ ([] : List (Addr × Obj)) ++ [] from q) (by simp)⟩
/-- behind the block: the def's own state, and the block's names to be let go -/
theorem blk_left (I0 : Inv X pins σ G z) (hf : ∀ b ∈ fp, FpOk X pins G b) (I : Inv (Bk X scope z G fp) [] σ' H' s') : Inv X pins σ H' s' ∧ (∃ m, s'.heap.Ns z.heap.objs.size m) ∧ FpOk X pins H' z.heap.objs.size := by
  have ⟨m, names, _⟩ := I.loc
  exact ⟨I0.call' (ch := fp) I.os I.base I.hok I.bare fun b hb => have ⟨_, a, b, c, d, e⟩ := hf b hb; ⟨c, a, d, e⟩, ⟨m, names⟩, I0.fpOk (Nat.le_refl _) I.free⟩
/-- the turn's own slots are forgotten -/
theorem blk_wiped {vs : List Nat} {p : List (Addr × Obj)} (e : wipe σ' vs = wipe σ vs) (I : Inv (Bk X scope z G fp) p σ' H' s') : Inv (Bk X scope z G fp) p (wipe σ vs) H' s' := by
  rw [← e]
  exact I.weak (wipe_length ..) fun _ _ q => (wipe_some q).1
end
/-- [elt for tg in src if ..]: the element under n tokens, and with the def's state where the block begins -/
theorem lc_any {n : Nat} {pins : List (Addr × Obj)} {s : Shared} {σ : St} {H : Hp} {Q : VK} {elt tg src : PySem.Expr} {ifs : List PySem.Expr} {scope : Scope} {own : List (Str × Nat)} {pos pos' : Pos} {wi : TI} {g : TG} {tt : TT} {te : TE} {use : Option (Value → Sem Unit)} {Qf : Value → Shared → Prop}
    (calm : X.calm = true) (nd : X.N.Nodup) (out : n ≤ s.toks) (I0 : Inv X pins σ H s) (di : PI X tg src wi) (ok : BlkOk X.N X.env.scope scope own)
    (dg : ∀ z G fp, PG (Bk X scope z G fp) tg g) (dt : ∀ z G fp, PTs (Bk X scope z G fp) ifs tt)
    (de : ∀ z G fp, Inv X pins σ G z → ∀ p s σ' H' Q', n ≤ s.toks → Inv (Bk X scope z G fp) p σ' H' s → te σ' H' Q' → wpAny (model X.prog X.w) X.A (eval elt (blkE X scope z)) (EP (Bk X scope z G fp) p σ' Q') (fun _ _ => False) s)
    (fold : ∀ x, foldedSetIterable src X.env x = pure x) (hw : tLc wi g tt te (own.map (·.2)) σ H Q)
    (ends : ∀ D C s' m H', Inv X pins σ H' s' → Q (.ref D) H' → s'.heap.Ns C m → FpOk X pins H' C → compPost (model X.prog X.w) X.A X.xe use Qf (.ref D) C (.ok .next) s') :
    wpAny (model X.prog X.w) X.A (comprehension (.ListComp elt [⟨tg, src, ifs, 0⟩] scope pos) scope X.env pos' (newList []) false (eval src X.env) use) Qf X.xe s := by
  have cells : ∀ y ∈ scope.names, y.2 = .free → ∃ c, X.env.cells.lookup y.1 = some c := fun y hy e => match ok.free y hy e with
    | .inl k => I0.ok.has _ (.inl k)
    | .inr k => I0.ok.has _ (.inr k)
  refine wpAny_comprehension_free (use := use) rfl fold (closure_ok cells) ok.kind (fun y hy e => by rw [ok.uniq y hy, e]) (thnN out (di.run pins s σ H _ I0 hw) fun _ _ o1 h1 => thnN o1 h1 fun _ s2 o2 ⟨it, fp, tn, J, H2, eit, I2, T, t2, own2, q⟩ => ?_)
  rw [eit]
  refine wpAny_newObj_type (newEnv_comp ?_) (show 0 ≤ sizeLine by decide)
  -- the new list; z, where the block begins
  have le := Nat.le_refl s2.heap.objs.size
  have ⟨W, ⟨m0, w0⟩, turn⟩ := q _ (I2.hok.fresh le)
  have grow : ∀ {h : Heap} {o : Obj}, ∀ b u, h.get? b = some u → (h.push o).get? b = some u := fun _ _ e => Heap.get?_push_of_some _ e
  have Iz := I2.laid (t' := s2.toks) (o := .lst []) (h' := s2.heap.push { cls := .type "list", data := .seq ([] : List Value).toArray }) grow le ⟨Nat.zero_le _, [], 0, .nil, Heap.get?_push_size _ rfl⟩
  have below : ∀ b ∈ fp, b < s2.heap.objs.size := fun b hb => have ⟨_, e, _⟩ := T.obj _ _ t2 b hb; Heap.lt_size e
  have ownz : ∀ b ∈ fp, FpOk X pins (upd H2 s2.heap.objs.size (.lst [])) b := fun b hb => ⟨(upd_ne (Nat.ne_of_lt (below b hb))).trans (own2 b hb).1, (own2 b hb).2⟩
  have tz := T.keep _ _ _ t2 fun b _ => grow (h := s2.heap) (o := { cls := .type "list", data := .seq ([] : List Value).toArray }) b
  have oz : n ≤ ({ s2 with heap := s2.heap.push { cls := .type "list", data := .seq ([] : List Value).toArray } } : Shared).toks := o2
  have lz : ∀ b ∈ fp, b < ({ s2 with heap := s2.heap.push { cls := .type "list", data := .seq ([] : List Value).toArray } } : Shared).heap.objs.size := fun b hb => Nat.lt_of_lt_of_le (below b hb) (by rw [Heap.size_push]; exact Nat.le_succ _)
  generalize hz : ({ s2 with heap := s2.heap.push { cls := .type "list", data := .seq ([] : List Value).toArray } } : Shared) = z at Iz oz lz ⊢
  replace tz : tn 0 z.heap := hz ▸ tz
  clear hz
  generalize upd H2 s2.heap.objs.size (.lst []) = G at Iz ownz w0
  generalize s2.heap.objs.size = D at turn ⊢
  have I4 := block_start Iz ok nd fun b hb => ⟨ownz b hb, lz b hb⟩
  have t4 : tn 0 (pushCells (z.heap.push { cls := .type "dict", data := .dict #[] }) scope.names) := T.keep _ _ _ tz fun b _ o e => pushCells_keeps _ _ _ _ (grow b o e)
  have loop : codeAny (model X.prog X.w) X.A (.compLoop (.ListComp elt [⟨tg, src, ifs, 0⟩] scope pos) 0 (.ref it) (.ref D) (blkE X scope z)) (compPost (model X.prog X.w) X.A X.xe use Qf (.ref D) z.heap.objs.size) { z with heap := pushCells (z.heap.push { cls := .type "dict", data := .dict #[] }) scope.names } := by
    refine compLoop_any (fun k y => n ≤ y.toks ∧ ∃ i H', (Inv (Bk X scope z G fp) [] (wipe σ (own.map (·.2))) H' y ∧ tn i y.heap ∧ ∀ b ∈ fp, H' b = none) ∧ W i k H') (fun k y ⟨oy, i, Hy, ⟨Iy, ty, no⟩, wy⟩ => ?_) m0 ⟨oz, 0, G, ⟨I4, t4, fun b hb => (ownz b hb).1⟩, w0⟩
    match turn i k Hy wy with
    | .inl ⟨stop, q⟩ =>
      refine thn (T.done (Bk X scope z G fp) rfl rfl rfl calm i [] y _ Hy _ Iy (blk_own Iy no) ty stop) fun r y1 ⟨er, I1⟩ => ?_
      rw [er]
      have ⟨J1, ⟨m, nm⟩, f⟩ := blk_left Iz ownz I1
      exact ends D _ y1 m Hy J1 q nm f
    | .inr ⟨go, N, less, step⟩ =>
      refine thn (turn_item (Y := Bk X scope z G fp) T calm (dg z G fp) (fun h => thnF h fun _ _ => id) oy Iy (blk_own Iy no) ty go step) fun r _ ⟨u, er, h1⟩ => ?_
      rw [er]
      refine thn h1 fun _ _ h2 => thn h2 fun _ y3 ⟨o3, h, σ3, H3, t3, I3, wp, q3⟩ => thnN o3 (thnF ((dt z G fp).run _ y3 σ3 H3 _ I3 q3) fun _ _ => id) fun b y4 o4 ⟨H4, I4, q4⟩ => ?_
      have next_ : ∀ {y' : Shared} {H' : Hp}, n ≤ y'.toks → Inv (Bk X scope z G fp) ([] ++ pinsAt fp h) σ3 H' y' → N H' → ∃ m, m < k ∧ n ≤ y'.toks ∧ ∃ i H', (Inv (Bk X scope z G fp) [] (wipe σ (own.map (·.2))) H' y' ∧ tn i y'.heap ∧ ∀ b ∈ fp, H' b = none) ∧ W i m H' :=
        fun o' I' n' => have ⟨m, lt, w'⟩ := less _ n'; have ⟨J', r'⟩ := turn_kept T t3 I'; ⟨m, lt, o', i + 1, _, ⟨blk_wiped wp J', r'⟩, w'⟩
      cases b with
      | false => exact next_ o4 I4 q4
      | true => exact thnN o4 (thnF (de z G fp Iz _ y4 σ3 H4 _ o4 I4 q4) fun _ _ => id) fun v y5 o5 ⟨x, H5, I5, r5, acc, at5, lt5, n5⟩ => thnN o5 (app_ok (X := Bk X scope z G fp) (Q := fun _ y6 => Inv (Bk X scope z G fp) ([] ++ pinsAt fp h) σ3 _ y6) I5 at5 lt5 r5 fun _ I6 => I6) fun _ _ o6 I6 => next_ o6 I6 n5
  exact codeAny_compStart_list loop (T.self X.A 0 _ _ _ t4 loop)
/-- .. stored under a name: the store comes ahead of the block's end -/
theorem lc_named {i : Nat} {y : Str} {py : Pos} {pins : List (Addr × Obj)} {σ : St} {H : Hp} {D : Ends} {C L : Addr} {m : Str → Option Value} {s : Shared} (nd : X.N.Nodup) (hy : X.N[i]? = some y) (loc : X.env.scope.names.lookup y = some .local)
    (I : Inv X pins σ H s) (q : gName i (.ref L) σ H D.nx) (nm : s.heap.Ns C m) (f : FpOk X pins H C) : compPost (model X.prog X.w) X.A X.xe (some (assign (.Name y py) X.env)) (fun _ z => SP X pins D .next z) (.ref L) C (.ok .next) s := by
  have ⟨f0, f1, _, f3, f4, f5⟩ := f
  refine wpAny_assign_Name (store_ok2 (v := V.ref L) I nd hy (.inl loc) rfl (fun z J ⟨a, sb, ha⟩ => ⟨m, nm.sameBut sb fun e => ?_, fun _ sb' => ⟨_, H, J.turned (t' := z.toks) (fun b o hb e => (sb'.2 b hb).trans e) f0 f1 f3 f4 f5, q⟩⟩) (.inr loc))
  exact match ha with
    | .inl e' => f1 (e.trans e')
    | .inr e' => f4 y a e' e.symm
/-- the assignment as the model runs it -/
theorem lc_asg {elt tg src : PySem.Expr} {ifs : List PySem.Expr} {scope : Scope} {pos spos py : Pos} {y : Str} {Q : Flow → Shared → Prop} {E : Value → Shared → Prop} {s : Shared} (sw : swapsWith (.ListComp elt [⟨tg, src, ifs, 0⟩] scope pos) (some (.Name y py)) spos.line X.env = pure true)
    (h : wpAny (model X.prog X.w) X.A (comprehension (.ListComp elt [⟨tg, src, ifs, 0⟩] scope pos) scope X.env (firstIterPos [⟨tg, src, ifs, 0⟩] pos) (newList []) false (eval src X.env) (some (assign (.Name y py) X.env))) (fun _ => Q .next) E s) :
    wpAny (model X.prog X.w) X.A (exec (.Assign [.Name y py] (.ListComp elt [⟨tg, src, ifs, 0⟩] scope pos) spos) X.env) Q E s :=
  exec_Assign_Name_used _ _ _ _ sw ▸ wpAny_bind (wpAny_standAt (wpAny_bind (wpAny_bind (thn h fun _ _ q => wpAny_pure (wpAny_pure q)))))
end
end Dl
namespace Dl
open PySem PySem.Spec PyProof.Rows L2
theorem pst_forT {X : Cx} {tg src : Expr} {bd : List Stmt} {wi : TI} {g : TG} {tb : TS} {pos : Pos} (hp : PassesOwn (model X.prog X.w) X.A X.env X.xe) (hc : X.calm = true)
    (hi : PI X tg src wi) (hg : PG X tg g) (hb : PSsT X bd tb) (hs : ∀ x, foldedSetIterable src X.env x = pure x := by intro _; rfl) : PST X (.For tg src bd [] pos) (tFor wi g tb) := fun pins s sg H D one I h =>
  have h : wi sg H fun J H1 => tFor (fun _ _ R => R J H1) g tb D sg H1 := h
  for_any (n := 1) hp hc hg hb hs (thnN one (hi.run pins s sg H _ I h) fun _ _ o1 h1 => thnN o1 h1 fun _ _ o2 h2 => ⟨o2, h2⟩)
end Dl
namespace Dl
open PySem PySem.Spec L2
variable {W : Wd} {X : Cx} {E : XK} {st : Stmt} {rest : List Stmt} {f g : SV} {pos : Pos}
def DST (W : Wd) (X : Cx) (E : XK) (e : Stmt) (f : SV) : Prop := PST X e (tDS W E f)
def DBT (W : Wd) (X : Cx) (E : XK) (e : List Stmt) (f : SV) : Prop := PSsT X e (tDB W E f)
theorem DST.mk {e : Stmt} {f : SV} {t : TS} (p : PST X e t) (q : ∀ Rs F H r sg env st D, Holds W Rs F H r st → EnvOk F r sg env → PostS W Rs F r (f env st) D E → t D sg H) : DST W X E e f :=
  fun pins s sg H D one I ⟨Rs, F, r, env, st, a, b, c⟩ => p pins s sg H D one I (q Rs F H r sg env st D a b c)
theorem DBT.mk {e : List Stmt} {f : SV} {t : TS} (p : PSsT X e t) (q : ∀ Rs F H r sg env st D, Holds W Rs F H r st → EnvOk F r sg env → PostS W Rs F r (f env st) D E → t D sg H) : DBT W X E e f :=
  fun pins s sg H D one I ⟨Rs, F, r, env, st, a, b, c⟩ => p pins s sg H D one I (q Rs F H r sg env st D a b c)
theorem DST.ex {e : Stmt} {f : SV} (h : DST W X E e f) : ∃ t, PST X e t ∧ ∀ Rs F H r sg env st D, Holds W Rs F H r st → EnvOk F r sg env → PostS W Rs F r (f env st) D E → t D sg H :=
  ⟨_, h, fun Rs F H r sg env st D a b c => ⟨Rs, F, r, env, st, a, b, c⟩⟩
theorem DBT.ex {e : List Stmt} {f : SV} (h : DBT W X E e f) : ∃ t, PSsT X e t ∧ ∀ Rs F H r sg env st D, Holds W Rs F H r st → EnvOk F r sg env → PostS W Rs F r (f env st) D E → t D sg H :=
  ⟨_, h, fun Rs F H r sg env st D a b c => ⟨Rs, F, r, env, st, a, b, c⟩⟩
theorem dst_of (h : DS W X E st f) : DST W X E st f := PST.of h
theorem dbt_of (h : DB W X E rest f) : DBT W X E rest f := PSsT.of h
theorem dbt_cons (h1 : DST W X E st f) (h2 : DBT W X E rest g) : DBT W X E (st :: rest) (sCons f g) := by
  obtain ⟨t, p, q⟩ := h1.ex
  obtain ⟨t2, p2, q2⟩ := h2.ex
  refine .mk (psst_cons p p2) fun Rs F H r sg env st D hH hE hP => ?_
  refine q Rs F H r sg env st _ hH hE ?_
  unfold sCons at hP
  cases ef : f env st with
  | nx e1 s1 =>
    rw [ef] at hP
    exact fun F' H' r' sg' s x h k => q2 Rs F' H' r' sg' e1 s1 D h k (PostS.later s x hP)
  | rt d s1 => rw [ef] at hP; exact hP
  | bk e1 s1 => rw [ef] at hP; exact hP
  | ct e1 s1 => rw [ef] at hP; exact hP
  | exc c p s1 => rw [ef] at hP; exact hP
  | bad => rw [ef] at hP; exact hP
theorem dst_for {tg iter : Expr} {body : List Stmt} {it : IV} {g : GV} {tb : SV} (hp : PassesOwn (model X.prog X.w) X.A X.env X.xe) (hc : X.calm = true) (hi : DI W X E tg iter it) (hg : DG W X E tg g) (hb : DBT W X E body tb)
    (hs : ∀ x, foldedSetIterable iter X.env x = pure x := by intro _; rfl) : DST W X E (.For tg iter body [] pos) (sFor it g tb) := by
  obtain ⟨wi, p, q⟩ := hi
  obtain ⟨t, pg, qg⟩ := hg
  obtain ⟨t1, p1, q1⟩ := hb.ex
  refine .mk (pst_forT hp hc p pg p1 hs) fun Rs F H r sg env st D hH hE hP => ?_
  refine q Rs F H r sg env st _ hH hE (bindS hP fun a ea z J F0 H0 r0 s0 x0 h0 drv => ?_)
  obtain ⟨⟨items, sub⟩, st0⟩ := a
  refine ⟨fun i m sg' H' => m = items.length - i ∧ i ≤ items.length ∧ ∃ F' r' env' st', Same F0 F' ∧ Ext r0 r' ∧ Holds W Rs F' H' r' st' ∧ EnvOk F' r' sg' env' ∧ PostS W Rs F' r' (forGo sub g tb (items.drop i) env' st') D E,
    ⟨items.length, by simp, Nat.zero_le _, F0, r0, env, st0, Same.refl _, Ext.refl _, h0, hE.mono s0 x0, PostS.later s0 x0 z⟩, ?_⟩
  rintro i m sg H ⟨rfl, hi, F, r, env, st, s, x, hH, hE, hP⟩
  by_cases hl : i < items.length
  · rw [List.drop_eq_getElem_cons hl] at hP
    unfold forGo at hP
    by_cases hst : still sub st = true
    · rw [if_pos hst] at hP
      obtain ⟨d1, _⟩ := drv i Rs F H r st s x hH hst
      obtain ⟨go, yld⟩ := d1 items[i] (by simp [hl])
      refine .inr ⟨go, fun sg' H' => i + 1 ≤ items.length ∧ ∃ F' r' env' st', Same F0 F' ∧ Ext r0 r' ∧ Holds W Rs F' H' r' st' ∧ EnvOk F' r' sg' env' ∧ PostS W Rs F' r' (forGo sub g tb (items.drop (i + 1)) env' st') D E,
        fun sg' H' z => ⟨items.length - (i + 1), by omega, rfl, z⟩, fun v H1 y => ?_⟩
      obtain ⟨F1, s1, h1, k1⟩ := yld v H1 y
      have hP1 := PostS.later s1 (Ext.refl r) hP
      refine qg Rs F1 H1 r sg env st v items[i] _ h1 (hE.mono s1 (Ext.refl _)) k1 (bindS hP1 fun b eb z2 F2 H2 r2 sg2 s2 x2 h2 k2 => ?_)
      refine q1 Rs F2 H2 r2 sg2 b.1 b.2 _ h2 k2 ?_
      replace z2 := PostS.later s2 x2 z2
      cases ebb : tb b.1 b.2 with
      | nx e s' => rw [ebb] at z2; exact fun F3 H3 r3 sg3 s3 x3 h3 k3 => ⟨hl, F3, r3, e, s', ((s.trans s1).trans s2).trans s3, (x.trans x2).trans x3, h3, k3, PostS.later s3 x3 z2⟩
      | ct e s' => rw [ebb] at z2; exact fun F3 H3 r3 sg3 s3 x3 h3 k3 => ⟨hl, F3, r3, e, s', ((s.trans s1).trans s2).trans s3, (x.trans x2).trans x3, h3, k3, PostS.later s3 x3 z2⟩
      | bk e s' => rw [ebb] at z2; exact z2
      | rt d s' => rw [ebb] at z2; exact z2
      | exc c p s' => rw [ebb] at z2; exact z2
      | bad => rw [ebb] at z2; exact z2
    · rw [if_neg hst] at hP; exact hP.elim
  · have e : items.drop i = [] := List.drop_eq_nil_of_le (by omega)
    rw [e] at hP
    unfold forGo at hP
    by_cases hst : still sub st = true
    · rw [if_pos hst] at hP
      obtain ⟨_, d2⟩ := drv i Rs F H r st s x hH hst
      exact .inl ⟨d2 (by simpa using hl), PostF.here hH hE hP⟩
    · rw [if_neg hst] at hP; exact hP.elim
end Dl
namespace Dl
open PySem PySem.Spec PyProof.Rows L2
variable {W : Wd} {X : Cx} {E : XK}
def DET (W : Wd) (X : Cx) (E : XK) (e : Expr) (f : EV) : Prop := PET X e (tDE W E f)
theorem dst_setLcT (m : Bool) {i : Nat} {y : Str} {py : Pos} {elt tg iter : Expr} {ifs : List Expr} {scope : Scope} {own : List (Str × Nat)} {vs : List Nat} {pos spos : Pos} {it : IV} {t : Tg1} {tt : TV} {te : EV} (hc : X.calm = true) (hN : X.N.Nodup) (hy : X.N[i]? = some y) (hyl : X.env.scope.names.lookup y = some .local)
    (hsw : swapsWith (.ListComp elt [⟨tg, iter, ifs, 0⟩] scope pos) (some (.Name y py)) spos.line X.env = pure true) (hi : DI W X E tg iter it) (ok : BlkOk X.N X.env.scope scope own) (hv : own.map (·.2) = vs) (hin : t.inside vs = true)
    (hg : ∀ (s : Shared) (H : Hp) (C : Addr) (cl : List (Str × Addr)) (fp : List Addr), Tg1.On (X.blk s H scope (compEnvC scope cl C X.env) fp) tg t) (ht : ∀ (s : Shared) (H : Hp) (C : Addr) (cl : List (Str × Addr)) (fp : List Addr), DTs W (X.blk s H scope (compEnvC scope cl C X.env) fp) E0 ifs tt)
    (he : ∀ (s : Shared) (H : Hp) (C : Addr) (cl : List (Str × Addr)) (fp : List Addr), DET W (X.blk s H scope (compEnvC scope cl C X.env) fp) E0 elt te) (hs : ∀ x, foldedSetIterable iter X.env x = pure x := by intro _; rfl) :
    DST W X E (.Assign [.Name y py] (.ListComp elt [⟨tg, iter, ifs, 0⟩] scope pos) spos) (sAsg (eLc m it vs t tt te) (gN i)) := by
  obtain ⟨wi, pi, qi⟩ := hi
  subst hv
  refine .mk (t := tAsg (tLc wi (t.rd X.K) (tDT W E0 tt) (tDE W E0 te) (own.map (·.2))) (gName i)) ?_ fun Rs F H r sg env st D hH hE hP => sAsg_post (fun Rs F H r sg env st Q hH hE hP => lc_post (tg := tg) (iter := iter) hin qi hH hE hP) gN_ok hH hE hP
  exact fun pins s sg H D one I h => lc_asg hsw (lc_any (n := 1) (g := t.rd X.K) (tt := tDT W E0 tt) (te := tDE W E0 te) (Qf := fun _ z => SP X pins D .next z) hc hN one I pi ok (fun z G fp => hg z G _ _ fp) (fun z G fp => ht z G _ _ fp) (fun z G fp _ => he z G _ _ fp) hs h
    fun _ _ _ _ _ J q nm f => lc_named hN hy hyl J q nm f)
theorem repl_mk {a b : Nat} {x y z : Str} (hy : y.cps.toList = [a]) (hz : z.cps.toList = [b]) (s : List Nat) (hx : x = ⟨s.toArray⟩) : Txt.replace x y z = ⟨(StrLaws.replL [a] [b] s).toArray⟩ := by
  subst hx
  have ly : 1 ≤ y.length := by
    have : y.length = y.cps.toList.length := by simp [Str.length]
    rw [this, hy]
    exact Nat.le_refl _
  have e := StrLaws.replace_list (x := ⟨s.toArray⟩) (z := z) ly
  rw [hy, hz] at e
  exact TL.ext_tl (by
    show (Txt.replace ⟨s.toArray⟩ y z).cps.toList = _
    rw [e])
theorem tyM_no {st : Store} {d : D} (h : ¬ ∃ u, d = .str u) : ¬ tyM st d = some "str" := by
  intro e
  cases d with
  | str u => exact h ⟨u, rfl⟩
  | ref n =>
    unfold tyM at e
    simp only at e
    split at e <;> simp at e
  | _ => simp [tyM] at e
/-- o.replace(a, b), one sign for one sign -/
theorem det_repl {o : Expr} {fo : EV} {y z : Str} {a b j k : Nat} {apos pos c0 c1 : Pos} (ho : DE W X E o fo) (hy : y.cps.toList = [a]) (hz : z.cps.toList = [b]) (hb : b < 128) (hyz : (y == z) = false := by decide)
    (hst2 : starEach [.Constant (.str y) j c0, .Constant (.str z) k c1] X.env = [(false, eval (.Constant (.str y) j c0) X.env), (false, eval (.Constant (.str z) k c1) X.env)] := by rfl)
    (hat : attributeBase o "replace" X.env (eval o X.env) = eval o X.env := by rfl) (hline : (apos.endLine == pos.line) = true := by rfl) :
    DET W X E (.Call (.Attribute o "replace" apos) [.Constant (.str y) j c0, .Constant (.str z) k c1] [] pos) (eMt "str" replG fo (aCons (eC (.str [a])) (aCons (eC (.str [b])) aNil))) := by
  obtain ⟨t, p, q⟩ := ho.ex
  intro pins s sg H Q one I ⟨Rs, F, r, env, st, hH, hE, hP⟩
  refine CwR.pet_replC p hyz hst2 hat hline pins s sg H Q one I ?_
  show t sg H _
  refine q Rs F H r sg env st _ hH hE (bindX hP fun d ed w F1 H1 r1 v1 s1 x1 h1 k1 => ?_)
  obtain ⟨d, st1⟩ := d
  by_cases hs : ∃ u, d = .str u
  · obtain ⟨u, rfl⟩ := hs
    cases k1 with
    | str _ hu hl =>
      have w : Post W Rs F r (if 1 ≤ ([a] : List Nat).length ∧ u.length + (u.length + 1) * ([b] : List Nat).length ≤ 1000000 then .ok (.str (StrLaws.replL [a] [b] u), st1) else .bad) Q E := w
      by_cases bd : 1 ≤ ([a] : List Nat).length ∧ u.length + (u.length + 1) * ([b] : List Nat).length ≤ 1000000
      · rw [if_pos bd] at w
        refine ⟨⟨u.toArray⟩, rfl, ?_, ?_⟩
        · have lz : z.length = 1 := by
            have : z.length = z.cps.toList.length := by simp [Str.length]
            rw [this, hz]; rfl
          rw [len_mk, lz]
          have := bd.2
          simp only [List.length_cons, List.length_nil] at this
          omega
        · rw [repl_mk hy hz u rfl]
          refine w F1 H1 r1 _ s1 x1 h1 (.str _ ?_ ?_)
          · rw [repl_one]
            refine List.all_eq_true.mpr fun c hc => ?_
            obtain ⟨x, hx, rfl⟩ := List.mem_map.mp hc
            split
            · exact decide_eq_true hb
            · exact List.all_eq_true.mp hu x hx
          · rw [repl_one, List.length_map]; exact hl
      · rw [if_neg bd] at w
        exact w.elim
  · have ne : ¬ tyM st1 d = some "str" := tyM_no hs
    have w : Post W Rs F r (if tyM st1 d = some "str" then (aCons (eC (.str [a])) (aCons (eC (.str [b])) aNil) env st1).bind fun l => replG l.2 d l.1 else .bad) Q E := w
    rw [if_neg ne] at w
    exact w.elim
end Dl
namespace Dl
open PySem PySem.Spec PyProof.Rows L2
theorem fnET {P : Program} {w : World} {W : Wd} {mg : Str → Option Value} {base : Heap} {x qual : Str} {s : Stmt} {f : Addr} {fd : FuncData} {N ps : List Str} {k n q : Nat} {b : SV} (F : Fun W.K x qual s f fd) (S : FnScope N ps (defScope s)) (nc : ∀ y ∈ (defScope s).names, y.2 ≠ .cell) (one : 1 ≤ ps.length) (hn : ps.length = n) (hq : N.length = q)
    (body : ∀ (cdv : Value) (A : Around) (outer : List PySem.Env) (sh : Shared) (H : Hp) (E : XK), Room k (A.deeper (PyProof.Rows.envOfC qual (defScope s) sh.heap.objs.size f cdv)) →
      DBT W (cxOf (L2.CX P w) P w W.K mg base N qual (defScope s) f cdv A outer sh H E) E (defBody s) b) : FnOk P w W.K mg base (L2.CX P w) (k + 1) f fd ps (spD W n (funD q b)) := by
  subst hq
  have ⟨_, _, _, _, _, _, cdv, _, _, e, lk, code⟩ := F.ex
  subst e
  refine fn_ofT lk code S nc one (fun vs H Q E ⟨_, _, _, _, ds, _, h, hl, _⟩ => by rw [h.length, hl, hn]) fun A outer sh H vs Q E hr ⟨Rs, F0, r, st, ds, hH, hk, hl, hP⟩ => ?_
  have ⟨t, p, m⟩ := (body cdv A outer sh H E hr).ex
  refine ⟨t, p, m Rs F0 H r _ _ st _ hH (EnvOk.start hk) ?_⟩
  revert hP
  unfold funD
  cases b (List.map some ds ++ List.replicate (N.length - ds.length) none) st <;> intro hP
  all_goals first | exact hP | exact hP.elim | skip
  exact fun F' H' r' _ s1 x1 h1 _ => hP F' H' r' .non s1 x1 h1 .non
end Dl
namespace Dl
open PySem L2
mutual
def D.toQ : D → PyData
  | .non => .none
  | .bl b => .bool b
  | .int i => .int i
  | .str s => .str ⟨s.toArray⟩
  | .tup ds => .tuple (D.toQs ds)
  | .lst ds => .list (D.toQs ds)
  | .ref _ => .none
  | .scr _ => .none
  | .exn _ _ => .none
def D.toQs : List D → List PyData
  | [] => []
  | d :: ds => D.toQ d :: D.toQs ds
end
mutual
/-- no reference, no truth value -/
def D.pl : D → Bool
  | .bl _ => false
  | .tup ds => D.pls ds
  | .lst ds => D.pls ds
  | .ref _ => false
  | .scr _ => false
  | .exn _ _ => false
  | _ => true
def D.pls : List D → Bool
  | [] => true
  | d :: ds => D.pl d && D.pls ds
end
mutual
def D.dp : D → Nat
  | .tup ds => D.dps ds + 1
  | .lst ds => D.dps ds + 1
  | _ => 1
def D.dps : List D → Nat
  | [] => 0
  | d :: ds => max (D.dp d) (D.dps ds)
end
theorem pls_iff : ∀ {ds : List D}, D.pls ds = true ↔ ∀ d ∈ ds, D.pl d = true
  | [] => by simp [D.pls]
  | d :: ds => by simp [D.pls, pls_iff (ds := ds)]
theorem dps_le {n : Nat} : ∀ {ds : List D}, D.dps ds ≤ n ↔ ∀ d ∈ ds, D.dp d ≤ n
  | [] => by simp [D.dps]
  | d :: ds => by simp [D.dps, Nat.max_le, dps_le (ds := ds)]
mutual
theorem toP_pl {st : Store} : ∀ (n : Nat) (d : D), D.pl d = true → D.dp d ≤ n → toP st n d = some (D.toQ d)
  | 0, d, _, h => by cases d <;> simp [D.dp] at h
  | n + 1, .non, _, _ => rfl
  | n + 1, .bl _, h, _ => by simp [D.pl] at h
  | n + 1, .int _, _, _ => rfl
  | n + 1, .str _, _, _ => rfl
  | n + 1, .tup ds, h, k => by
    rw [D.pl] at h
    rw [D.dp] at k
    rw [toP]
    simp only [toPs_pl n ds h (by omega), D.toQ]
  | n + 1, .lst ds, h, k => by
    rw [D.pl] at h
    rw [D.dp] at k
    rw [toP]
    simp only [toPs_pl n ds h (by omega), D.toQ]
  | n + 1, .ref _, h, _ => by simp [D.pl] at h
  | n + 1, .scr _, h, _ => by simp [D.pl] at h
  | n + 1, .exn _ _, h, _ => by simp [D.pl] at h
theorem toPs_pl {st : Store} : ∀ (n : Nat) (ds : List D), D.pls ds = true → D.dps ds ≤ n → optAll (ds.map (toP st n)) = some (D.toQs ds)
  | n, [], _, _ => by simp [optAll, D.toQs]
  | n, d :: ds, h, k => by
    simp only [D.pls, Bool.and_eq_true] at h
    simp only [D.dps, Nat.max_le] at k
    rw [List.map_cons, toP_pl n d h.1 k.1, optAll, toPs_pl n ds h.2 k.2]
    simp only [D.toQs]
end
mutual
theorem eqv_pl : ∀ (d e : D), D.pl d = true → D.pl e = true → PyData.eqv d.toQ e.toQ = D.beq d e
  | .non, e, _, h => by cases e <;> simp_all [D.toQ, PyData.eqv, D.beq, D.pl]
  | .bl _, e, h, _ => by simp [D.pl] at h
  | .int _, e, _, h => by cases e <;> simp_all [D.toQ, PyData.eqv, D.beq, D.pl]
  | .str s, e, _, h => by
    cases e with
    | str t => simp only [D.toQ, PyData.eqv, D.beq, str_beq]
    | _ => simp_all [D.toQ, PyData.eqv, D.beq, D.pl]
  | .tup ds, e, h1, h => by
    cases e with
    | tup es =>
      simp only [D.pl] at h1 h
      simp only [D.toQ, PyData.eqv, D.beq]
      exact eqvs_pl ds es h1 h
    | _ => simp_all [D.toQ, PyData.eqv, D.beq, D.pl]
  | .lst ds, e, h1, h => by
    cases e with
    | lst es =>
      simp only [D.pl] at h1 h
      simp only [D.toQ, PyData.eqv, D.beq]
      exact eqvs_pl ds es h1 h
    | _ => simp_all [D.toQ, PyData.eqv, D.beq, D.pl]
  | .ref _, e, h, _ => by simp [D.pl] at h
  | .scr _, e, h, _ => by simp [D.pl] at h
  | .exn _ _, e, h, _ => by simp [D.pl] at h
theorem eqvs_pl : ∀ (ds es : List D), D.pls ds = true → D.pls es = true → PyData.eqvAll (D.toQs ds) (D.toQs es) = D.beqs ds es
  | [], [], _, _ => by simp only [D.toQs, PyData.eqvAll, D.beqs]
  | [], e :: es, _, _ => by simp only [D.toQs, PyData.eqvAll, D.beqs]
  | d :: ds, [], _, _ => by simp only [D.toQs, PyData.eqvAll, D.beqs]
  | d :: ds, e :: es, h1, h2 => by
    simp only [D.pls, Bool.and_eq_true] at h1 h2
    simp only [D.toQs, PyData.eqvAll, D.beqs]
    rw [eqv_pl d e h1.1 h2.1, eqvs_pl ds es h1.2 h2.2]
end
instance : DecidableEq D := fun d e => if h : D.beq d e = true then isTrue (D.eq_of_beq d e h) else isFalse fun z => h (z ▸ D.beq_refl d)
theorem beq_dec (d e : D) : D.beq d e = decide (d = e) := by
  by_cases h : d = e
  · subst h; simp [D.beq_refl]
  · simp only [h, decide_false]
    cases q : D.beq d e with
    | true => exact absurd (D.eq_of_beq d e q) h
    | false => rfl
/-- equality of plain data -/
theorem eqG_pl {neg : Bool} {st : Store} {d e : D} (h1 : D.pl d = true) (h2 : D.pl e = true) (k1 : D.dp d ≤ 40) (k2 : D.dp e ≤ 40) : eqG neg st d e = .ok (.bl (if neg = true then !decide (d = e) else decide (d = e)), st) := by
  unfold eqG
  rw [toP_pl 40 d h1 k1, toP_pl 40 e h2 k2]
  simp only [eqv_pl d e h1 h2, beq_dec]
theorem toP_ref {n k : Nat} {st : Store} {ds : List D} (h : st[k]? = some (.lst ds)) : toP st (n + 1) (.ref k) = toP st (n + 1) (.lst ds) := by
  rw [toP, toP]
  simp only [h]
theorem eqG_refL {neg : Bool} {st : Store} {k : Nat} {ds : List D} {e : D} (h : st[k]? = some (.lst ds)) : eqG neg st (.ref k) e = eqG neg st (.lst ds) e := by
  unfold eqG; rw [toP_ref (n := 39) h]
theorem eqG_refR {neg : Bool} {st : Store} {k : Nat} {ds : List D} {e : D} (h : st[k]? = some (.lst ds)) : eqG neg st e (.ref k) = eqG neg st e (.lst ds) := by
  unfold eqG; rw [toP_ref (n := 39) h]
@[simp] theorem eqG_int {neg : Bool} {st : Store} (i j : Int) : eqG neg st (.int i) (.int j) = .ok (.bl (if neg = true then !decide (i = j) else decide (i = j)), st) := by
  rw [eqG_pl rfl rfl (by simp [D.dp]) (by simp [D.dp])]
  simp
@[simp] theorem eqG_str {neg : Bool} {st : Store} (i j : List Nat) : eqG neg st (.str i) (.str j) = .ok (.bl (if neg = true then !decide (i = j) else decide (i = j)), st) := by
  rw [eqG_pl rfl rfl (by simp [D.dp]) (by simp [D.dp])]
  simp
@[simp] theorem eqG_bl {neg : Bool} {st : Store} (i j : Bool) : eqG neg st (.bl i) (.bl j) = .ok (.bl (if neg = true then !(i == j) else (i == j)), st) := by
  unfold eqG
  simp [toP, PyData.eqv]
@[simp] theorem pl_int (i : Int) : D.pl (.int i) = true := rfl
@[simp] theorem pl_str (s : List Nat) : D.pl (.str s) = true := rfl
@[simp] theorem pl_non : D.pl .non = true := rfl
@[simp] theorem pl_tup (ds : List D) : D.pl (.tup ds) = D.pls ds := by rw [D.pl]
@[simp] theorem pl_lst (ds : List D) : D.pl (.lst ds) = D.pls ds := by rw [D.pl]
@[simp] theorem pls_nil : D.pls [] = true := rfl
@[simp] theorem pls_cons (d : D) (ds : List D) : D.pls (d :: ds) = (D.pl d && D.pls ds) := by rw [D.pls]
@[simp] theorem dp_int (i : Int) : D.dp (.int i) = 1 := rfl
@[simp] theorem dp_str (s : List Nat) : D.dp (.str s) = 1 := rfl
@[simp] theorem dp_non : D.dp .non = 1 := rfl
@[simp] theorem dp_tup (ds : List D) : D.dp (.tup ds) = D.dps ds + 1 := by rw [D.dp]
@[simp] theorem dp_lst (ds : List D) : D.dp (.lst ds) = D.dps ds + 1 := by rw [D.dp]
@[simp] theorem dps_nil : D.dps [] = 0 := rfl
@[simp] theorem dps_cons (d : D) (ds : List D) : D.dps (d :: ds) = max (D.dp d) (D.dps ds) := by rw [D.dps]
@[simp] theorem pls_strs (ss : List (List Nat)) : D.pls (ss.map D.str) = true := pls_iff.mpr fun d h => by
  obtain ⟨s, _, rfl⟩ := List.mem_map.mp h; rfl
@[simp] theorem pls_ints (ss : List Int) : D.pls (ss.map D.int) = true := pls_iff.mpr fun d h => by
  obtain ⟨s, _, rfl⟩ := List.mem_map.mp h; rfl
theorem dps_strs (ss : List (List Nat)) : D.dps (ss.map D.str) ≤ 1 := dps_le.mpr fun d h => by
  obtain ⟨s, _, rfl⟩ := List.mem_map.mp h; exact Nat.le_refl _
theorem dps_ints (ss : List Int) : D.dps (ss.map D.int) ≤ 1 := dps_le.mpr fun d h => by
  obtain ⟨s, _, rfl⟩ := List.mem_map.mp h; exact Nat.le_refl _
@[simp] theorem lim_0 : (0 ≤ LIM) = True := eq_true (le_LIM (by decide))
@[simp] theorem lim_1 : (1 ≤ LIM) = True := eq_true (le_LIM (by decide))
@[simp] theorem lim_2 : (2 ≤ LIM) = True := eq_true (le_LIM (by decide))
@[simp] theorem lim_3 : (3 ≤ LIM) = True := eq_true (le_LIM (by decide))
@[simp] theorem lim_4 : (4 ≤ LIM) = True := eq_true (le_LIM (by decide))
@[simp] theorem lim_5 : (5 ≤ LIM) = True := eq_true (le_LIM (by decide))
@[simp] theorem lim_6 : (6 ≤ LIM) = True := eq_true (le_LIM (by decide))
@[simp] theorem lim_7 : (7 ≤ LIM) = True := eq_true (le_LIM (by decide))
@[simp] theorem lim_8 : (8 ≤ LIM) = True := eq_true (le_LIM (by decide))
@[simp] theorem lim_9 : (9 ≤ LIM) = True := eq_true (le_LIM (by decide))
@[simp] theorem lim_10 : (10 ≤ LIM) = True := eq_true (le_LIM (by decide))
@[simp] theorem lim_11 : (11 ≤ LIM) = True := eq_true (le_LIM (by decide))
@[simp] theorem lim_12 : (12 ≤ LIM) = True := eq_true (le_LIM (by decide))
@[simp] theorem lim_13 : (13 ≤ LIM) = True := eq_true (le_LIM (by decide))
@[simp] theorem lim_14 : (14 ≤ LIM) = True := eq_true (le_LIM (by decide))
@[simp] theorem lim_15 : (15 ≤ LIM) = True := eq_true (le_LIM (by decide))
@[simp] theorem wipe_nil (env : Env) : wipeD env [] = env := rfl
@[simp] theorem wipe_cons (env : Env) (v : Nat) (vs : List Nat) : wipeD env (v :: vs) = (wipeD env vs).set v none := rfl
@[simp] theorem intsD_len (lo : Int) (n : Nat) : (intsD lo n).length = n := by simp [intsD]
@[simp ↓] theorem bind_m {A B : Type} (r : R A) (f : A → R B) : r.bind f = match r with
  | .ok a => f a
  | .exc c p st => .exc c p st
  | .bad => .bad := (rfl)
@[simp ↓] theorem sOf_m {A : Type} (r : R A) (f : A → SR) : sOf r f = match r with
  | .ok a => f a
  | .exc c p st => .exc c p st
  | .bad => .bad := (rfl)
/-- a turn's end that goes on -/
def SR.turn (r : SR) (J : Env → Store → Prop) : Prop := match r with
  | .nx e s => J e s
  | .ct e s => J e s
  | _ => False
@[simp] theorem turn_nx (e : Env) (s : Store) (J : Env → Store → Prop) : (SR.nx e s).turn J = J e s := rfl
@[simp] theorem turn_ct (e : Env) (s : Store) (J : Env → Store → Prop) : (SR.ct e s).turn J = J e s := rfl
theorem turn_ex {r : SR} {J : Env → Store → Prop} (h : r.turn J) : ∃ e s, (r = .nx e s ∨ r = .ct e s) ∧ J e s := by
  cases r with
  | nx e s => exact ⟨e, s, .inl rfl, h⟩
  | ct e s => exact ⟨e, s, .inr rfl, h⟩
  | _ => exact h.elim
theorem for_at {sub : List (Nat × List D)} {g : GV} {b : SV} {ds : List D} {env : Env} {st : Store} {r : SR} (hf : forGo sub g b ds env st = r) (I : Nat → Env → Store → Prop) (h0 : I 0 env st)
    (hst : ∀ i env st, i ≤ ds.length → I i env st → still sub st = true)
    (turn : ∀ i d env st, ds[i]? = some d → I i env st → (sOf (g d env st) fun a => b a.1 a.2).turn (I (i + 1))) : ∃ e s, r = .nx e s ∧ I ds.length e s := by
  subst hf
  refine for_inv I h0 hst fun i d env st hd hI => ?_
  have t := turn i d env st hd hI
  cases q : g d env st with
  | ok a =>
    obtain ⟨e1, s1⟩ := a
    rw [q] at t
    obtain ⟨e2, s2, t1, t2⟩ := turn_ex t
    exact ⟨e1, s1, e2, s2, rfl, t1, t2⟩
  | exc c p s => rw [q] at t; exact t.elim
  | bad => rw [q] at t; exact t.elim
/-- a turn's end: on, or out -/
def SR.turnE (r : SR) (J : Env → Store → Prop) (P : SR → Prop) : Prop := match r with
  | .nx e s => J e s
  | .ct e s => J e s
  | .bk e s => P (.nx e s)
  | .rt d s => P (.rt d s)
  | .exc c p s => P (.exc c p s)
  | .bad => False
@[simp] theorem turnE_nx (e : Env) (s : Store) (J : Env → Store → Prop) (P : SR → Prop) : (SR.nx e s).turnE J P = J e s := rfl
@[simp] theorem turnE_ct (e : Env) (s : Store) (J : Env → Store → Prop) (P : SR → Prop) : (SR.ct e s).turnE J P = J e s := rfl
@[simp] theorem turnE_bk (e : Env) (s : Store) (J : Env → Store → Prop) (P : SR → Prop) : (SR.bk e s).turnE J P = P (.nx e s) := rfl
@[simp] theorem turnE_rt (d : D) (s : Store) (J : Env → Store → Prop) (P : SR → Prop) : (SR.rt d s).turnE J P = P (.rt d s) := rfl
@[simp] theorem turnE_exc (c : Nat) (p : Option D) (s : Store) (J : Env → Store → Prop) (P : SR → Prop) : (SR.exc c p s).turnE J P = P (.exc c p s) := rfl
theorem for_atE {sub : List (Nat × List D)} {g : GV} {b : SV} {ds : List D} {env : Env} {st : Store} {r : SR} (hf : forGo sub g b ds env st = r) (I : Nat → Env → Store → Prop) (P : SR → Prop) (h0 : I 0 env st)
    (hst : ∀ i env st, i ≤ ds.length → I i env st → still sub st = true)
    (turn : ∀ i d env st, ds[i]? = some d → I i env st → ∃ e1 s1, g d env st = .ok (e1, s1) ∧ (b e1 s1).turnE (I (i + 1)) P)
    (done : ∀ e s, I ds.length e s → P (.nx e s)) : P r := by
  subst hf
  refine for_inv_end I P h0 hst (fun i d env st hd hI => ?_) done
  obtain ⟨e1, s1, q, t⟩ := turn i d env st hd hI
  refine ⟨e1, s1, q, ?_⟩
  cases w : b e1 s1 with
  | nx e s => rw [w] at t; exact .inl ⟨e, s, .inl rfl, t⟩
  | ct e s => rw [w] at t; exact .inl ⟨e, s, .inr rfl, t⟩
  | bk e s => rw [w] at t; exact .inr (.inl ⟨e, s, rfl, t⟩)
  | rt d s => rw [w] at t; exact .inr (.inr (.inl ⟨d, s, rfl, t⟩))
  | exc c p s => rw [w] at t; exact .inr (.inr (.inr ⟨c, p, s, rfl, t⟩))
  | bad => rw [w] at t; exact t.elim
/-- the value of an expression, with what is so behind it -/
def R.to {A : Type} (r : R (A × Store)) (J : A → Store → Prop) : Prop := match r with
  | .ok a => J a.1 a.2
  | _ => False
@[simp] theorem to_ok {A : Type} (a : A × Store) (J : A → Store → Prop) : (R.ok a).to J = J a.1 a.2 := rfl
theorem lc_at {sub : List (Nat × List D)} {t : Tg1} {tt : TV} {te : EV} {env : Env} {ds : List D} {st : Store} {r : R (List D × Store)} (hf : lcGo sub t tt te env ds [] st = r) (I : Nat → List D → Store → Prop) (h0 : I 0 [] st)
    (hst : ∀ i acc st, i ≤ ds.length → I i acc st → still sub st = true)
    (turn : ∀ i d acc st, ds[i]? = some d → I i acc st → ∃ env1, t.put d env = some env1 ∧ (tt env1 st).to fun b st1 => if b = true then (te env1 st1).to fun y st2 => I (i + 1) (acc ++ [y]) st2 else I (i + 1) acc st1) :
    ∃ acc s, r = .ok (acc, s) ∧ I ds.length acc s := by
  subst hf
  have gen : ∀ (es : List D) (i : Nat) (acc : List D) (st : Store), i + es.length = ds.length → ds.drop i = es → I i acc st → ∃ acc' s, lcGo sub t tt te env es acc st = .ok (acc', s) ∧ I ds.length acc' s := by
    intro es
    induction es with
    | nil =>
      intro i acc st hl hd hI
      have : i = ds.length := by simpa using hl
      exact ⟨acc, st, lcGo_nil (hst i acc st (by omega) hI), this ▸ hI⟩
    | cons d es ih =>
      intro i acc st hl hd hI
      have hi : ds[i]? = some d := by
        have := congrArg (fun l => l[0]?) hd
        simpa using this
      have hd' : ds.drop (i + 1) = es := by
        have : ds.drop (i + 1) = (ds.drop i).drop 1 := by rw [List.drop_drop]
        rw [this, hd]; rfl
      have hl' : i + 1 + es.length = ds.length := by simp at hl; omega
      obtain ⟨env1, p1, p2⟩ := turn i d acc st hi hI
      rw [lcGo_cons (hst i acc st (by simp at hl; omega) hI), p1]
      show ∃ acc' s, ((noX (tt env1 st)).bind fun b => if b.1 = true then (noX (te env1 b.2)).bind fun y => lcGo sub t tt te env es (acc ++ [y.1]) y.2 else lcGo sub t tt te env es acc b.2) = .ok (acc', s) ∧ I ds.length acc' s
      cases q : tt env1 st with
      | ok b =>
        obtain ⟨b, st1⟩ := b
        rw [q] at p2
        simp only [to_ok] at p2
        simp only [noX_ok, R.bind_ok]
        cases b with
        | true =>
          simp only [if_true] at p2 ⊢
          cases q2 : te env1 st1 with
          | ok y =>
            rw [q2] at p2
            simp only [noX_ok, R.bind_ok]
            exact ih _ _ _ hl' hd' p2
          | exc c p s => rw [q2] at p2; exact p2.elim
          | bad => rw [q2] at p2; exact p2.elim
        | false => exact ih _ _ _ hl' hd' p2
      | exc c p s => rw [q] at p2; exact p2.elim
      | bad => rw [q] at p2; exact p2.elim
  exact gen ds 0 [] st (by simp) (by simp) h0
end Dl
namespace Dl
open PySem L2
/-- is_sign: 1 slots, 1 parameters -/
def d_is_sign : SV := sRet (eAnd (eChain leG leG (eC (.str [32])) (eV 0) (eC (.str [126]))) (eOp (eqG true) (eB ordG (aCons (eV 0) (aNil))) (eC (.int 37))))
/-- is_cell: 2 slots, 1 parameters -/
def d_is_cell (m_is_sign : FV) : SV := sCons (sIf (tOrD (tNotD (tv (eIs "str" (eV 0)))) (tv (eOp gtG (eB lenG (aCons (eV 0) (aNil))) (eC (.int 10))))) (sRet (eC (.bl false))) (sNext)) (sRet (eOp (eqG false) (eLc false (iSeq (eV 0)) [1] (.one 1) (tNotD (tv (eCall 1 m_is_sign (aCons (eV 1) (aNil))))) (eV 1)) (eLst false (aNil))))
/-- is_row: 2 slots, 1 parameters -/
def d_is_row (m_is_cell : FV) : SV := sCons (sIf (tOrD (tNotD (tv (eIs "tuple" (eV 0)))) (tNotD (tv (eChain leG leG (eC (.int 1)) (eB lenG (aCons (eV 0) (aNil))) (eC (.int 6)))))) (sRet (eC (.bl false))) (sNext)) (sRet (eOp (eqG false) (eLc false (iSeq (eV 0)) [1] (.one 1) (tNotD (tv (eCall 1 m_is_cell (aCons (eV 1) (aNil))))) (eV 1)) (eLst false (aNil))))
/-- need_page: 3 slots, 1 parameters -/
def d_need_page (m_is_row : FV) : SV := sCons (sIf (tOrD (tNotD (tv (eIs "list" (eV 0)))) (tv (eOp (eqG false) (eV 0) (eLst false (aNil))))) (sBad) (sNext)) (sFor (iEn (aCons (eV 0) (aNil))) (gTp 2 (gsCons (gN 1) (gsCons (gN 2) (gsNil)))) (sIf (tOrD (tv (eOp geG (eV 1) (eC (.int 30)))) (tNotD (tv (eCall 1 m_is_row (aCons (eV 2) (aNil)))))) (sBad) (sNext)))
/-- law_begun: 3 slots, 1 parameters -/
def d_law_begun : SV := sCons (sAsg (eC (.int 0)) (gN 1)) (sCons (sFor (iSeq (eV 0)) (gN 2) (sAsg (eOp modG (eOp (addG true) (eOp (addG true) (eOp (mulG true) (eV 1) (eC (.int 48271))) (eOp (mulG true) (eV 2) (eC (.int 69621)))) (eC (.int 11))) (eC (.int 2147483647))) (gN 1))) (sRet (eLst true (aCons (eB (listG true) (aCons (eV 0) (aNil))) (aCons (eOp (mulG true) (eV 1) (eB intG (aCons (eOp gtG (eB lenG (aCons (eV 0) (aNil))) (eC (.int 2))) (aNil)))) (aNil))))))
/-- law_take: 3 slots, 2 parameters -/
def d_law_take : SV := sCons (sIf (tv (eOp (eqG false) (eOp ixG (eV 0) (eC (.int 0))) (eLst false (aNil)))) (sCons (sAsg (eOp modG (eOp (mulG false) (eOp ixG (eV 0) (eC (.int 1))) (eC (.int 48271))) (eC (.int 2147483647))) (gSb (eV 0) (eC (.int 1)) setLG)) (sRet (eOp modG (eOp divG (eOp ixG (eV 0) (eC (.int 1))) (eC (.int 7))) (eV 1)))) (sNext)) (sCons (sAsg (eOp ixG (eOp ixG (eV 0) (eC (.int 0))) (eC (.int 0))) (gN 2)) (sCons (sAsg (eOp divG (eV 2) (eV 1)) (gSb (eOp ixG (eV 0) (eC (.int 0))) (eC (.int 0)) setLG)) (sCons (sIf (tOrD (tv (eOp (eqG false) (eOp ixG (eOp ixG (eV 0) (eC (.int 0))) (eC (.int 0))) (eC (.int 0)))) (tv (eOp (eqG false) (eOp ixG (eOp ixG (eV 0) (eC (.int 0))) (eC (.int 0))) (eNeg (eC (.int 1)))))) (sExpr (eMt "list" (popG) (eOp ixG (eV 0) (eC (.int 0))) (aCons (eC (.int 0)) (aNil)))) (sNext)) (sRet (eOp modG (eV 2) (eV 1))))))
/-- law_alike: 3 slots, 2 parameters -/
def d_law_alike (rec_ : FV) : SV := sCons (sIf (tv (eOp (isG false) (eV 1) (eC .non))) (sRet (eOp (isG false) (eV 0) (eC .non))) (sNext)) (sCons (sIf (tv (eIs "bool" (eV 1))) (sRet (eAnd (eIs "bool" (eV 0)) (eOp (eqG false) (eV 0) (eV 1)))) (sNext)) (sCons (sIf (tv (eIs "int" (eV 1))) (sRet (eAnd (eIs "int" (eV 0)) (eAnd (eNot (eIs "bool" (eV 0))) (eOp (eqG false) (eV 0) (eV 1))))) (sNext)) (sCons (sIf (tv (eIs "str" (eV 1))) (sRet (eAnd (eIs "str" (eV 0)) (eOp (eqG false) (eV 0) (eV 1)))) (sNext)) (sCons (sIf (tOrD (tv (eOp (eqG true) (eIs "tuple" (eV 1)) (eIs "tuple" (eV 0)))) (tv (eOp (eqG true) (eIs "list" (eV 1)) (eIs "list" (eV 0))))) (sRet (eC (.bl false))) (sNext)) (sCons (sIf (tv (eOp (eqG true) (eB lenG (aCons (eV 0) (aNil))) (eB lenG (aCons (eV 1) (aNil))))) (sRet (eC (.bl false))) (sNext)) (sCons (sFor (iR1 (aCons (eB lenG (aCons (eV 1) (aNil))) (aNil))) (gN 2) (sIf (tNotD (tv (eCall 2 rec_ (aCons (eOp ixG (eV 0) (eV 2)) (aCons (eOp ixG (eV 1) (eV 2)) (aNil)))))) (sRet (eC (.bl false))) (sNext))) (sRet (eC (.bl true)))))))))
/-- law_sign: 2 slots, 1 parameters -/
def d_law_sign (m_law_take : FV) : SV := sCons (sAsg (eC (.str [32, 33, 34, 35, 36, 38, 39, 40, 41, 42, 43, 44, 45, 46, 47, 48, 49, 50, 51, 52, 53, 54, 55, 56, 57, 58, 59, 60, 61, 62, 63, 64, 65, 66, 67, 68, 69, 70, 71, 72, 73, 74, 75, 76, 77, 78, 79, 80, 81, 82, 83, 84, 85, 86, 87, 88, 89, 90, 91, 92, 93, 94, 95, 96, 97, 98, 99, 100, 101, 102, 103, 104, 105, 106, 107, 108, 109, 110, 111, 112, 113, 114, 115, 116, 117, 118, 119, 120, 121, 122, 123, 124, 125, 126])) (gN 1)) (sRet (eOp ixG (eV 1) (eCall 2 m_law_take (aCons (eV 0) (aCons (eC (.int 94)) (aNil))))))
/-- law_cell: 6 slots, 2 parameters -/
def d_law_cell (m_law_take : FV) (m_law_sign : FV) : SV := sCons (sAsg (eCall 2 m_law_take (aCons (eV 0) (aCons (eC (.int 9)) (aNil)))) (gN 2)) (sCons (sIf (tv (eOp (eqG false) (eV 2) (eC (.int 0)))) (sRet (eC (.str []))) (sNext)) (sCons (sIf (tOrD (tv (eOp (eqG false) (eV 2) (eC (.int 1)))) (tAndD (tv (eOp (eqG false) (eV 1) (eC (.int 0)))) (tv (eOp ltG (eV 2) (eC (.int 7)))))) (sRet (eOp (addG false) (eOp ixG (eLst false (aCons (eC (.str [])) (aCons (eC (.str [45])) (aNil)))) (eOp divG (eCall 2 m_law_take (aCons (eV 0) (aCons (eC (.int 3)) (aNil)))) (eC (.int 2)))) (eB strG (aCons (eCall 2 m_law_take (aCons (eV 0) (aCons (eOp ixG (eLst false (aCons (eC (.int 10)) (aCons (eC (.int 1000)) (aCons (eOp powG (eC (.int 10)) (eC (.int 9))) (aNil))))) (eCall 2 m_law_take (aCons (eV 0) (aCons (eC (.int 3)) (aNil))))) (aNil)))) (aNil))))) (sNext)) (sCons (sIf (tv (eOp (eqG false) (eV 2) (eC (.int 2)))) (sCons (sAsg (eLst false (aCons (eC (.str [45])) (aCons (eC (.str [45, 45, 49])) (aCons (eC (.str [49, 45])) (aCons (eC (.str [48, 120])) (aCons (eC (.str [32, 49])) (aCons (eC (.str [49, 32])) (aCons (eC (.str [45, 48])) (aCons (eC (.str [48, 48, 55])) (aCons (eC (.str [32])) (aCons (eC (.str [32, 32, 32])) (aCons (eC (.str [49, 50, 51, 52, 53, 54, 55, 120])) (aCons (eC (.str [49, 50, 51, 52, 53, 54, 55, 56, 45])) (aCons (eC (.str [45, 48, 48, 48, 48, 48, 48, 48, 32, 49])) (aNil))))))))))))))) (gN 3)) (sRet (eOp ixG (eV 3) (eCall 2 m_law_take (aCons (eV 0) (aCons (eC (.int 13)) (aNil))))))) (sNext)) (sCons (sAsg (eOp (addG false) (eC (.int 1)) (eCall 2 m_law_take (aCons (eV 0) (aCons (eOp ixG (eLst false (aCons (eC (.int 3)) (aCons (eC (.int 10)) (aNil)))) (eCall 2 m_law_take (aCons (eV 0) (aCons (eC (.int 2)) (aNil))))) (aNil))))) (gN 4)) (sCons (sIf (tv (eOp ltG (eV 2) (eC (.int 6)))) (sRet (eMt "str" (joinG) (eC (.str [])) (aCons (eLc false (iR1 (aCons (eV 4) (aNil))) [5] (.one 5) (tYesD) (eOp ixG (eC (.str [97, 98, 99, 100, 101, 102, 103, 104, 105, 106])) (eCall 2 m_law_take (aCons (eV 0) (aCons (eC (.int 10)) (aNil)))))) (aNil)))) (sNext)) (sRet (eMt "str" (joinG) (eC (.str [])) (aCons (eLc false (iR1 (aCons (eV 4) (aNil))) [5] (.one 5) (tYesD) (eCall 1 m_law_sign (aCons (eV 0) (aNil)))) (aNil)))))))))
/-- law_row: 4 slots, 3 parameters -/
def d_law_row (m_law_cell : FV) : SV := sRet (eB tupG (aCons (eLc false (iR1 (aCons (eV 2) (aNil))) [3] (.one 3) (tYesD) (eCall 2 m_law_cell (aCons (eV 0) (aCons (eOp ixG (eV 1) (eV 3)) (aNil))))) (aNil)))
/-- law_page: 8 slots, 2 parameters -/
def d_law_page (m_law_take : FV) (m_law_row : FV) : SV := sCons (sAsg (eLc false (iR1 (aCons (eC (.int 6)) (aNil))) [7] (.one 7) (tYesD) (eCall 2 m_law_take (aCons (eV 0) (aCons (eC (.int 2)) (aNil))))) (gN 2)) (sCons (sPar 3 4 (aCons (eOp (addG false) (eC (.int 1)) (eCall 2 m_law_take (aCons (eV 0) (aCons (eC (.int 6)) (aNil))))) (aCons (eLst true (aNil)) (aNil)))) (sCons (sFor (iR1 (aCons (eOp (addG false) (eC (.int 1)) (eCall 2 m_law_take (aCons (eV 0) (aCons (eV 1) (aNil))))) (aNil))) (gN 5) (sCons (sAsg (eCall 2 m_law_take (aCons (eV 0) (aCons (eC (.int 8)) (aNil)))) (gN 6)) (sCons (sAsg (eOp ixG (eLst false (aCons (eOp (addG false) (eC (.int 1)) (eCall 2 m_law_take (aCons (eV 0) (aCons (eC (.int 6)) (aNil))))) (aCons (eB maxG (aCons (eC (.int 1)) (aCons (eOp subG (eV 3) (eC (.int 1))) (aNil)))) (aCons (eB minG (aCons (eC (.int 6)) (aCons (eOp (addG false) (eV 3) (eC (.int 1))) (aNil)))) (aCons (eV 3) (aNil)))))) (eB minG (aCons (eV 6) (aCons (eC (.int 3)) (aNil))))) (gN 3)) (sCons (sExpr (eMt "list" (appendG) (eV 4) (aCons (eCall 3 m_law_row (aCons (eV 0) (aCons (eV 2) (aCons (eV 3) (aNil))))) (aNil)))) (sIf (tv (eOp (eqG false) (eV 6) (eC (.int 7)))) (sCons (sAsg (eOp ixG (eV 4) (eCall 2 m_law_take (aCons (eV 0) (aCons (eB lenG (aCons (eV 4) (aNil))) (aNil))))) (gSb (eV 4) (eNeg (eC (.int 1))) setLG)) (sAsg (eB lenG (aCons (eOp ixG (eV 4) (eNeg (eC (.int 1)))) (aNil))) (gN 3))) (sNext)))))) (sRet (eV 4))))
/-- law_style: 2 slots, 1 parameters -/
def d_law_style (m_law_take : FV) : SV := sCons (sAsg (eOp ixG (eLst false (aCons (eCall 2 m_law_take (aCons (eV 0) (aCons (eC (.int 5)) (aNil)))) (aCons (eC (.int 1)) (aCons (eC (.int 2)) (aNil))))) (eCall 2 m_law_take (aCons (eV 0) (aCons (eC (.int 3)) (aNil))))) (gN 1)) (sRet (eTup (aCons (eV 1) (aCons (eOp ixG (eLst false (aCons (eC (.int 0)) (aCons (eCall 2 m_law_take (aCons (eV 0) (aCons (eC (.int 13)) (aNil)))) (aCons (eCall 2 m_law_take (aCons (eV 0) (aCons (eC (.int 13)) (aNil)))) (aNil))))) (eCall 2 m_law_take (aCons (eV 0) (aCons (eC (.int 3)) (aNil))))) (aNil)))))
end Dl
namespace Dl
open PySem L2
def okSign (c : Nat) : Bool := decide (32 ≤ c) && decide (c ≤ 126) && decide (c ≠ 37)
def okCell (s : List Nat) : Bool := decide (s.length ≤ 10) && s.all okSign
def okRow (r : List (List Nat)) : Bool := decide (1 ≤ r.length) && decide (r.length ≤ 6) && r.all okCell
abbrev Row := List (List Nat)
abbrev Page := List Row
def okPage (p : Page) : Bool := decide (1 ≤ p.length) && decide (p.length ≤ 30) && p.all okRow
def encR (r : Row) : D := .tup (r.map .str)
def encP (p : Page) : List D := p.map encR
@[simp] theorem encP_len (p : Page) : (encP p).length = p.length := by simp [encP]
@[simp] theorem pl_encR (r : Row) : D.pl (encR r) = true := by simp [encR]
@[simp] theorem pls_encP (p : Page) : D.pls (encP p) = true := pls_iff.mpr fun d h => by
  obtain ⟨s, _, rfl⟩ := List.mem_map.mp h; exact pl_encR s
theorem dp_encR (r : Row) : D.dp (encR r) ≤ 2 := by
  have := dps_strs r
  simp only [encR, dp_tup]; omega
theorem dps_encP (p : Page) : D.dps (encP p) ≤ 2 := dps_le.mpr fun d h => by
  obtain ⟨s, _, rfl⟩ := List.mem_map.mp h; exact dp_encR s
theorem str_inj : Function.Injective D.str := fun a b h => by cases h; rfl
theorem strs_inj {a b : List (List Nat)} (h : a.map D.str = b.map D.str) : a = b := (List.map_inj_right fun x y e => str_inj e).mp h
theorem encR_inj {a b : Row} (h : encR a = encR b) : a = b := strs_inj (by simpa [encR] using h)
theorem ltc (a b : Nat) : ([a] < [b]) ↔ a < b := by
  rw [List.cons_lt_cons_iff]
  simp
def m_is_sign : FV := funD 1 d_is_sign
theorem is_sign_str (c : Nat) (st : Store) : m_is_sign [.str [c]] st = .ok (.bl (okSign c), st) := by
  unfold m_is_sign funD d_is_sign
  simp [leG, ordG, ltc]
  by_cases h1 : 32 ≤ c
  · by_cases h2 : c ≤ 126
    · simp [okSign, h1, h2, Nat.not_lt.mpr h1, Nat.not_lt.mpr h2]
      omega
    · simp [okSign, h1, h2, Nat.not_lt.mpr h1, Nat.lt_of_not_le h2]
  · simp [okSign, h1, Nat.lt_of_not_le h1]
theorem still_list {st : Store} {d : D} {w : Wk} (h : listOf st d = some w) : still w.2 st = true := by
  unfold listOf at h
  split at h
  · cases h; rfl
  · split at h
    · cases h; exact still_one ‹_›
    · cases h
  · cases h
theorem items_list {st : Store} {d : D} {w : Wk} (h : listOf st d = some w) : itemsOf st d = some w := by
  unfold listOf at h
  split at h
  · exact h
  · exact h
  · cases h
theorem lst_list {st : Store} {d : D} {w : Wk} (h : listOf st d = some w) : lstOf st d = some w.1 := by
  unfold listOf at h
  split at h
  · cases h; rfl
  · split at h
    · cases h
      rename_i e
      simp [lstOf, e]
    · cases h
  · cases h
theorem ty_list {st : Store} {d : D} {w : Wk} (h : listOf st d = some w) : tyOf st d = some "list" := by
  unfold listOf at h
  split at h
  · rfl
  · split at h
    · cases h
      rename_i e
      simp [tyOf, e]
    · cases h
  · cases h
theorem len_list {st : Store} {d : D} {w : Wk} (h : listOf st d = some w) : lenG st [d] = .ok (.int w.1.length, st) := by
  have e := lst_list h
  unfold listOf at h
  split at h
  · simp [lenG, e]
  · simp [lenG, e]
  · cases h
theorem eq_list {neg : Bool} {st : Store} {d e : D} {w : Wk} (h : listOf st d = some w) : eqG neg st d e = eqG neg st (.lst w.1) e := by
  unfold listOf at h
  split at h
  · cases h; rfl
  · split at h
    · cases h; exact eqG_refL ‹_›
    · cases h
  · cases h
/-- a comprehension that keeps what p likes -/
theorem lc_keep {sub : List (Nat × List D)} {j : Nat} {tt : TV} {env : Env} {st : Store} (hs : still sub st = true) (p : D → Bool) (ds : List D)
    (h : ∀ d ∈ ds, tt (env.set j (some d)) st = .ok (p d, st)) (hj : j < env.length) : lcGo sub (.one j) tt (eV j) env ds [] st = .ok (ds.filter p, st) := by
  have := lc_pure (t := .one j) (te := eV j) (env := env) (tt := tt) hs p (fun d => d) ds [] fun d hd => ⟨_, rfl, h d hd, fun _ => by simp [hj]⟩
  simpa using this
theorem eq_nilD {st : Store} {ds : List D} (h : D.pls ds = true) (k : D.dps ds ≤ 39) : eqG false st (.lst ds) (.lst []) = .ok (.bl (decide (ds = [])), st) := by
  rw [eqG_pl (by simpa using h) rfl (by simp; omega) (by simp)]
  simp
def m_is_cell : FV := funD 2 (d_is_cell m_is_sign)
theorem is_cell_str (s : List Nat) (st : Store) : m_is_cell [.str s] st = .ok (.bl (okCell s), st) := by
  unfold m_is_cell funD d_is_cell
  simp [tyOf, subTy, gtG, lenG, itemsOf]
  by_cases h : s.length ≤ 10
  · have h' : ¬ ((10 : Int) < s.length) := by omega
    simp only [h', if_false]
    have hl : s.length ≤ LIM := le_LIM (by omega)
    simp [hl, itemsOf]
    rw [lc_keep rfl (fun d => match d with | .str [c] => !okSign c | _ => true) _ (fun d hd => ?_) (by simp [wipeD])]
    · have e : (s.map fun c => D.str [c]).filter (fun d => match d with | .str [c] => !okSign c | _ => true) = ((s.filter fun c => !okSign c).map fun c => [c]).map D.str := by
        rw [List.filter_map, List.map_map]; rfl
      simp only [R.bind_ok, e]
      rw [eq_nilD (pls_strs _) (Nat.le_trans (dps_strs _) (by decide))]
      simp only [R.bind_ok, sOf_ok, List.map_eq_nil_iff]
      congr 3
      rw [okCell, decide_eq_true h, Bool.true_and, Bool.eq_iff_iff]
      simp [List.filter_eq_nil_iff]
    · obtain ⟨c, _, rfl⟩ := List.mem_map.mp hd
      simp [wipeD, is_sign_str]
  · have h' : (10 : Int) < s.length := by omega
    simp [h', h, okCell]
def m_is_row : FV := funD 2 (d_is_row m_is_cell)
theorem is_row_tup (r : Row) (st : Store) : m_is_row [encR r] st = .ok (.bl (okRow r), st) := by
  unfold m_is_row funD d_is_row encR
  simp [tyOf, subTy, leG, lenG, itemsOf]
  by_cases h : 1 ≤ r.length
  · have h1 : (1 : Int) ≤ r.length := by omega
    by_cases h2 : r.length ≤ 6
    · have h3 : (r.length : Int) ≤ 6 := by omega
      have hl : r.length ≤ LIM := le_LIM (by omega)
      simp [h1, h3, hl, itemsOf]
      rw [lc_keep rfl (fun d => match d with | .str c => !okCell c | _ => true) _ (fun d hd => ?_) (by simp [wipeD])]
      · have e : (r.map D.str).filter (fun d => match d with | .str c => !okCell c | _ => true) = (r.filter fun c => !okCell c).map D.str := by
          rw [List.filter_map]; rfl
        simp only [R.bind_ok, e]
        rw [eq_nilD (pls_strs _) (Nat.le_trans (dps_strs _) (by decide))]
        simp only [R.bind_ok, sOf_ok, List.map_eq_nil_iff]
        congr 3
        rw [okRow, decide_eq_true h, decide_eq_true h2, Bool.true_and, Bool.true_and, Bool.eq_iff_iff]
        simp [List.filter_eq_nil_iff]
      · obtain ⟨c, _, rfl⟩ := List.mem_map.mp hd
        simp [wipeD, is_cell_str]
    · have h3 : ¬ (r.length : Int) ≤ 6 := by omega
      simp [h1, h3, h2, okRow]
  · have h1 : ¬ (1 : Int) ≤ r.length := by omega
    simp [h1, h, okRow]
def m_need_page : FV := funD 3 (d_need_page m_is_row)
theorem need_page_ok {p : Page} {d : D} {w : List (Nat × List D)} {st : Store} (h : listOf st d = some (encP p, w)) (hp : okPage p = true) : m_need_page [d] st = .ok (.non, st) := by
  unfold m_need_page funD d_need_page
  simp only [okPage, Bool.and_eq_true, decide_eq_true_eq, List.all_eq_true] at hp
  obtain ⟨⟨h1, h2⟩, h3⟩ := hp
  have ne : encP p ≠ [] := fun z => by rw [← encP_len, z] at h1; simp at h1
  simp [ty_list h, subTy, eq_list h, eq_nilD (pls_encP p) (Nat.le_trans (dps_encP p) (by decide)), ne, h]
  generalize hf : forGo _ _ _ _ _ _ = r
  obtain ⟨e, s, rfl, rfl, e2⟩ := for_at hf (fun i env st' => st' = st ∧ ∃ a b, env = [some d, a, b]) ⟨rfl, _, _, rfl⟩ (fun i env st' _ hI => by rw [hI.1]; exact still_list h) (fun i x env st' hi hI => by
      obtain ⟨rfl, a, b, rfl⟩ := hI
      obtain ⟨y, hy, rfl⟩ := pairUp_at hi
      unfold encP at hy
      rw [List.getElem?_map] at hy
      cases q : p[i]? with
      | none => rw [q] at hy; cases hy
      | some r =>
        rw [q] at hy
        cases hy
        have hr := h3 r (List.mem_of_getElem? q)
        have hi := (List.getElem?_eq_some_iff.mp q).1
        have hi2 : ¬ (30 : Int) ≤ i := by omega
        simp [geG, hi2, is_row_tup, hr])
  rfl
end Dl
namespace Dl
open PySem L2
/-- the box stands first in the store -/
structure Box where
  ns : List Int
  s : Int
def Bx (b : Box) (rest : Store) : Store := .lst (b.ns.map .int) :: .lst [.ref 0, .int b.s] :: rest
@[simp] theorem Bx_len (b : Box) (rest : Store) : (Bx b rest).length = rest.length + 2 := rfl
@[simp] theorem Bx_app (b : Box) (rest more : Store) : Bx b rest ++ more = Bx b (rest ++ more) := rfl
@[simp high] theorem Bx_get (b : Box) (rest : Store) (k : Nat) : (Bx b rest)[k + 2]? = rest[k]? := by simp [Bx]
@[simp] theorem Bx_set (b : Box) (rest : Store) (k : Nat) (o : Ob) : (Bx b rest).set (k + 2) o = Bx b (rest.set k o) := by simp [Bx]
/-- what is taken, and the box behind -/
def tk (b : Box) (n : Int) : Int × Box := match b.ns with
  | [] => (b.s * 48271 % 2147483647 / 7 % n, ⟨[], b.s * 48271 % 2147483647⟩)
  | x :: ns => (x % n, if x / n = 0 ∨ x / n = -1 then ⟨ns, b.s⟩ else ⟨x / n :: ns, b.s⟩)
theorem tk_lo (b : Box) {n : Int} (h : 0 < n) : 0 ≤ (tk b n).1 := by
  obtain ⟨ns, s⟩ := b
  cases ns <;> exact Int.emod_nonneg _ (by omega)
theorem tk_hi (b : Box) {n : Int} (h : 0 < n) : (tk b n).1 < n := by
  obtain ⟨ns, s⟩ := b
  cases ns <;> exact Int.emod_lt_of_pos _ h
@[simp] theorem atI_0 {A : Type} (a : A) (l : List A) : atI (a :: l) 0 = some a := by
  have : (0 : Int) < ↑(l.length + 1) := by omega
  simp [atI, ixN, this]
@[simp] theorem atI_1 {A : Type} (a b : A) (l : List A) : atI (a :: b :: l) 1 = some b := by
  have : (1 : Int) < (l.length : Int) + 1 + 1 := by omega
  simp [atI, ixN, this]
theorem atI_nat {A : Type} (l : List A) (i : Nat) : atI l (i : Int) = l[i]? := by
  by_cases h : i < l.length
  · have : (i : Int) < l.length := by omega
    simp [atI, ixN, h]
  · have : ¬ (i : Int) < l.length := by omega
    simp [atI, ixN, h]
theorem atI_int {A : Type} (l : List A) (i : Int) (h0 : 0 ≤ i) : atI l i = l[i.toNat]? := by
  have := atI_nat l i.toNat
  rwa [Int.toNat_of_nonneg h0] at this
theorem atI_last {A : Type} (l : List A) (a : A) : atI (l ++ [a]) (-1) = some a := by
  have h : -(((l ++ [a]).length : Nat) : Int) ≤ -1 := by simp; omega
  have h1 : ¬ (0 : Int) ≤ -1 := by decide
  simp only [atI, ixN, if_neg h1, if_pos h]
  have : (-1 + (((l ++ [a]).length : Nat) : Int)).toNat = l.length := by simp; omega
  rw [Option.bind_some, this]
  simp
theorem eq_intsR {st : Store} {k : Nat} {ns : List Int} (h : st[k]? = some (.lst (ns.map .int))) : eqG false st (.ref k) (.lst []) = .ok (.bl (decide (ns = [])), st) := by
  rw [eqG_refL h, eq_nilD (pls_ints _) (Nat.le_trans (dps_ints _) (by decide))]
  simp
def m_law_begun : FV := funD 3 d_law_begun
def m_law_take : FV := funD 3 d_law_take
theorem begun_ok (ns : List Int) : ∃ b, m_law_begun [.scr ns] [] = .ok (.ref 1, Bx b []) := by
  unfold m_law_begun funD d_law_begun
  simp [itemsOf]
  generalize hf : forGo _ _ _ _ _ _ = r
  obtain ⟨e, s, rfl, rfl, i, v, rfl⟩ := for_at hf (fun i env st' => st' = [] ∧ ∃ i v, env = [some (.scr ns), some (.int i), v]) ⟨rfl, 0, none, rfl⟩ (fun i env st' _ hI => rfl) (fun i x env st' hi hI => by
    obtain ⟨rfl, a, b, rfl⟩ := hI
    rw [List.getElem?_map] at hi
    cases q : ns[i]? with
    | none => rw [q] at hi; cases hi
    | some r =>
      rw [q] at hi
      cases hi
      simp [mulG, addG, modG])
  have h3 : ∀ b : Bool, -18446744073709551616 < (if b = true then (1 : Int) else 0) ∧ (if b = true then (1 : Int) else 0) < 18446744073709551616 := fun b => by cases b <;> decide
  simp [listG, lenG, gtG, intG, mulG, newL]
  by_cases hb : (2 : Int) < ns.length
  · exact ⟨⟨ns, _⟩, by simp [hb, Bx]; rfl⟩
  · exact ⟨⟨ns, _⟩, by simp [hb, Bx]; rfl⟩
theorem take_eq (b : Box) (rest : Store) (n : Int) (h : 0 < n) (hn : n < 18446744073709551616) : m_law_take [.ref 1, .int n] (Bx b rest) = .ok (.int (tk b n).1, Bx (tk b n).2 rest) := by
  unfold m_law_take funD d_law_take
  obtain ⟨ns, s⟩ := b
  cases ns with
  | nil =>
    have e := eq_intsR (st := Bx ⟨[], s⟩ rest) (k := 0) (ns := []) rfl
    simp only [Bx, List.map_nil] at e
    simp [Bx, ixG, lstOf, e, mulG, modG, divG, setLG, ixN, h, tk]
  | cons x ns =>
    have e := eq_intsR (st := Bx ⟨x :: ns, s⟩ rest) (k := 0) (ns := x :: ns) rfl
    simp only [Bx, List.map_cons] at e
    have hl : (0 : Int) < (ns.length : Int) + 1 := by omega
    by_cases h1 : x / n = 0
    · simp [Bx, ixG, lstOf, e, mulG, modG, divG, setLG, ixN, h, hl, hn, h1, tyM, popG, tk]
    · by_cases h2 : x / n = -1
      · simp [Bx, ixG, lstOf, e, mulG, modG, divG, setLG, ixN, h, hl, hn, h2, tyM, popG, tk]
      · simp [Bx, ixG, lstOf, e, mulG, modG, divG, setLG, ixN, h, hl, hn, h1, h2, tk]
def l_law_alike : Nat → FV
  | 0 => fvBad
  | n + 1 => funD 3 (d_law_alike (l_law_alike n))
def m_law_alike : FV := l_law_alike 8
theorem alike_str (n : Nat) (s t : List Nat) (st : Store) : l_law_alike (n + 1) [.str s, .str t] st = .ok (.bl (decide (s = t)), st) := by
  rw [l_law_alike]
  unfold funD d_law_alike
  simp [isG, tyOf, subTy]
theorem atI_mem {A : Type} {l : List A} {i : Int} (h0 : 0 ≤ i) (h1 : i < l.length) : ∃ x, atI l i = some x ∧ x ∈ l := by
  rw [atI_int l i h0]
  have : i.toNat < l.length := by omega
  exact ⟨l[i.toNat], by simp [this], by simp⟩
def m_law_sign : FV := funD 2 (d_law_sign m_law_take)
def everySign : List Nat := [32, 33, 34, 35, 36, 38, 39, 40, 41, 42, 43, 44, 45, 46, 47, 48, 49, 50, 51, 52, 53, 54, 55, 56, 57, 58, 59, 60, 61, 62, 63, 64, 65, 66, 67, 68, 69, 70, 71, 72, 73, 74, 75, 76, 77, 78, 79, 80, 81, 82, 83, 84, 85, 86, 87, 88, 89, 90, 91, 92, 93, 94, 95, 96, 97, 98, 99, 100, 101, 102, 103, 104, 105, 106, 107, 108, 109, 110, 111, 112, 113, 114, 115, 116, 117, 118, 119, 120, 121, 122, 123, 124, 125, 126]
theorem sign_ok (b : Box) (rest : Store) : ∃ c b', okSign c = true ∧ m_law_sign [.ref 1] (Bx b rest) = .ok (.str [c], Bx b' rest) := by
  obtain ⟨c, e, m⟩ := atI_mem (l := everySign) (tk_lo b (n := 94) (by decide)) (tk_hi b (n := 94) (by decide))
  refine ⟨c, (tk b 94).2, ?_, ?_⟩
  · have : ∀ c ∈ everySign, okSign c = true := by decide
    exact this c m
  · unfold m_law_sign funD d_law_sign
    unfold everySign at e
    simp [take_eq, ixG, e]
theorem joinL_ones (cs : List Nat) : TL.joinL [] (cs.map fun c => [c]) = cs := by
  induction cs with
  | nil => rfl
  | cons c cs ih =>
    cases cs with
    | nil => rfl
    | cons d cs =>
      simp only [List.map_cons] at ih ⊢
      rw [TL.joinL, ih]; rfl
theorem join_ones (cs : List Nat) (st : Store) (h : cs.length ≤ LIM) : joinG st (.str []) [.lst ((cs.map fun c => [c]).map D.str)] = .ok (.str cs, st) := by
  unfold joinG
  simp only [lstOf, Option.bind_some, strsOf_map]
  have e : ((cs.map fun c => [c]).map List.length).sum = cs.length := by
    induction cs with
    | nil => rfl
    | cons c cs ih => simp_all; omega
  rw [e, joinL_ones]
  simp [h]
theorem join_ones' (cs : List Nat) (st : Store) (h : cs.length ≤ LIM) : joinG st (.str []) [.lst (cs.map (D.str ∘ fun c => [c]))] = .ok (.str cs, st) := by
  rw [← List.map_map]; exact join_ones cs st h
def m_law_cell : FV := funD 6 (d_law_cell m_law_take m_law_sign)
theorem okCell_num {k : Int} (h0 : 0 ≤ k) (h : k < 10 ^ 9) : okCell (TL.numL k.toNat) = true ∧ okCell (45 :: TL.numL k.toNat) = true := by
  have hl : (TL.numL k.toNat).length ≤ 9 := TL.numL_len (by decide) (by omega)
  have ha : ∀ c ∈ TL.numL k.toNat, okSign c = true := fun c hc => by
    have := TL.numL_digits _ c hc
    simp [okSign]
    omega
  have hb : okSign 45 = true := by decide
  refine ⟨?_, ?_⟩
  · simp only [okCell, Bool.and_eq_true, decide_eq_true_eq, List.all_eq_true]
    exact ⟨by omega, ha⟩
  · simp only [okCell, Bool.and_eq_true, decide_eq_true_eq, List.all_eq_true, List.length_cons, List.mem_cons]
    refine ⟨by omega, fun c hc => ?_⟩
    rcases hc with rfl | hc
    · exact hb
    · exact ha c hc
theorem cell_ok (b : Box) (rest : Store) (sort : Int) : ∃ s b', okCell s = true ∧ m_law_cell [.ref 1, .int sort] (Bx b rest) = .ok (.str s, Bx b' rest) := by
  unfold m_law_cell funD d_law_cell
  simp [take_eq]
  have h0 := tk_lo b (n := 9) (by decide)
  have h9 := tk_hi b (n := 9) (by decide)
  generalize tk b 9 = p at h0 h9 ⊢
  obtain ⟨way, b⟩ := p
  simp only at h0 h9 ⊢
  by_cases h : way = 0
  · exact ⟨[], by decide, b, by simp [h]⟩
  simp [h]
  have len2 : (([D.str [], D.str [45]] : List D).length : Int) = 2 := rfl
  have t3 := tk_lo b (n := 3) (by decide)
  have t3' := tk_hi b (n := 3) (by decide)
  obtain ⟨x, ex, mx⟩ := atI_mem (l := [D.str [], D.str [45]]) (i := (tk b 3).1 / 2) (by omega) (by rw [len2]; omega)
  obtain ⟨y, ey, my⟩ := atI_mem (l := [D.int 10, D.int 1000, D.int 1000000000]) (i := (tk (tk b 3).2 3).1) (tk_lo _ (by decide)) (tk_hi _ (by decide))
  have hy : ∃ n : Int, y = .int n ∧ 0 < n ∧ n ≤ 1000000000 := by
    simp at my
    rcases my with rfl | rfl | rfl <;> exact ⟨_, rfl, by decide, by decide⟩
  obtain ⟨n, rfl, n0, n9⟩ := hy
  have n64 : n < 18446744073709551616 := by omega
  have k0 := tk_lo (tk (tk b 3).2 3).2 n0
  have k1 := tk_hi (tk (tk b 3).2 3).2 n0
  by_cases hc : way = 1 ∨ sort = 0 ∧ way < 7
  · have q := okCell_num k0 (by omega)
    have ql : (TL.numL (tk (tk (tk b 3).2 3).2 n).1.toNat).length + 1 ≤ LIM := le_LIM (by have := q.2; simp [okCell] at this; omega)
    have ql' : (TL.numL (tk (tk (tk b 3).2 3).2 n).1.toNat).length ≤ LIM := Nat.le_trans (Nat.le_succ _) ql
    have e18 : (tk (tk (tk b 3).2 3).2 n).1 < 1000000000000000000 := by omega
    simp at mx
    rcases hc with hc | ⟨hc, hc'⟩ <;> rcases mx with rfl | rfl <;> simp [*, Nat.add_comm 1, ltG, ixG, lstOf, divG, powG, strG, addG, take_eq]
    all_goals first | exact ⟨_, q.1, _, rfl, rfl⟩ | exact ⟨_, q.2, _, rfl, rfl⟩ | exact ⟨_, q.1, rfl, _, rfl⟩ | exact ⟨_, q.2, rfl, _, rfl⟩
  · have c1 : ¬ way = 1 := fun z => hc (.inl z)
    have step : ∀ st : Store, (if way = 1 then R.ok (true, st) else if sort = 0 then R.ok (decide (way < 7), st) else R.ok (false, st)) = R.ok (false, st) := fun st => by
      by_cases hs : sort = 0
      · have : ¬ way < 7 := fun z => hc (.inr ⟨hs, z⟩)
        simp [c1, hs, this]
      · simp [c1, hs]
    simp [ltG, step]
    by_cases h2 : way = 2
    · obtain ⟨z, ez, mz⟩ := atI_mem (l := [D.str [45], D.str [45, 45, 49], D.str [49, 45], D.str [48, 120], D.str [32, 49], D.str [49, 32], D.str [45, 48], D.str [48, 48, 55], D.str [32], D.str [32, 32, 32], D.str [49, 50, 51, 52, 53, 54, 55, 120], D.str [49, 50, 51, 52, 53, 54, 55, 56, 45], D.str [45, 48, 48, 48, 48, 48, 48, 48, 32, 49]]) (i := (tk b 13).1) (tk_lo _ (by decide)) (tk_hi _ (by decide))
      have hz : ∃ s, z = .str s ∧ okCell s = true := by
        simp at mz
        rcases mz with rfl | rfl | rfl | rfl | rfl | rfl | rfl | rfl | rfl | rfl | rfl | rfl | rfl <;> exact ⟨_, rfl, by decide⟩
      obtain ⟨s, rfl, hs⟩ := hz
      simp [h2, take_eq, ixG, lstOf, ez]
      exact ⟨s, hs, rfl, _, rfl⟩
    · obtain ⟨y, ey, my⟩ := atI_mem (l := [D.int 3, D.int 10]) (i := (tk b 2).1) (tk_lo _ (by decide)) (tk_hi _ (by decide))
      have hy : ∃ n : Int, y = .int n ∧ 0 < n ∧ n ≤ 10 := by
        simp at my
        rcases my with rfl | rfl <;> exact ⟨_, rfl, by decide, by decide⟩
      obtain ⟨n, rfl, n0, n9⟩ := hy
      have n64 : n < 18446744073709551616 := by omega
      have k0 := tk_lo (tk b 2).2 n0
      have k1 := tk_hi (tk b 2).2 n0
      simp [h2, take_eq, ixG, lstOf, addG, ey, n0, n64]
      generalize tk (tk b 2).2 n = p at k0 k1 ⊢
      obtain ⟨m, b⟩ := p
      simp only at k0 k1 ⊢
      have m1 : -1000000 ≤ 1 + m ∧ 1 + m ≤ 1000000 := by omega
      have m2 : (1 + m).toNat ≤ LIM := le_LIM (by omega)
      by_cases h6 : way < 6
      · simp [ltG, h6, m1, m2]
        generalize hf : lcGo _ _ _ _ _ _ _ _ = r
        obtain ⟨acc, s, rfl, cs, b', hc1, hc2, rfl, hc3⟩ := lc_at hf (fun i acc st' => ∃ cs b', cs.length = i ∧ (∀ c ∈ cs, okSign c = true) ∧ acc = (cs.map fun c => [c]).map D.str ∧ st' = Bx b' rest) ⟨[], b, rfl, by simp, rfl, rfl⟩ (fun _ _ _ _ _ => rfl) (fun i x acc st' hi ⟨cs, b', e1, e2, e3, e4⟩ => by
          subst e3 e4
          obtain ⟨c, ec, mc⟩ := atI_mem (l := [97, 98, 99, 100, 101, 102, 103, 104, 105, 106]) (i := (tk b' 10).1) (tk_lo _ (by decide)) (tk_hi _ (by decide))
          have hc : okSign c = true := by
            have : ∀ c ∈ ([97, 98, 99, 100, 101, 102, 103, 104, 105, 106] : List Nat), okSign c = true := by decide
            exact this c mc
          refine ⟨_, rfl, ?_⟩
          simp [take_eq, ixG, ec]
          exact ⟨cs ++ [c], by simp [e1], fun x hx => by simp at hx; rcases hx with hx | rfl <;> first | exact e2 _ hx | exact hc, by simp, _, rfl⟩)
        have hcl : cs.length ≤ 10 := by simp at hc1; omega
        have hk : okCell cs = true := by
          simp only [okCell, Bool.and_eq_true, decide_eq_true_eq, List.all_eq_true]
          exact ⟨hcl, hc2⟩
        subst hc3
        simp [tyM, join_ones' cs _ (le_LIM (by omega))]
        exact ⟨cs, hk, rfl, _, rfl⟩
      · simp [ltG, h6, m1, m2]
        generalize hf : lcGo _ _ _ _ _ _ _ _ = r
        obtain ⟨acc, s, rfl, cs, b', hc1, hc2, rfl, hc3⟩ := lc_at hf (fun i acc st' => ∃ cs b', cs.length = i ∧ (∀ c ∈ cs, okSign c = true) ∧ acc = (cs.map fun c => [c]).map D.str ∧ st' = Bx b' rest) ⟨[], b, rfl, by simp, rfl, rfl⟩ (fun _ _ _ _ _ => rfl) (fun i x acc st' hi ⟨cs, b', e1, e2, e3, e4⟩ => by
          subst e3 e4
          obtain ⟨c, b2, hc, ec⟩ := sign_ok b' rest
          refine ⟨_, rfl, ?_⟩
          simp [ec]
          exact ⟨cs ++ [c], by simp [e1], fun x hx => by simp at hx; rcases hx with hx | rfl <;> first | exact e2 _ hx | exact hc, by simp, _, rfl⟩)
        have hcl : cs.length ≤ 10 := by simp at hc1; omega
        have hk : okCell cs = true := by
          simp only [okCell, Bool.and_eq_true, decide_eq_true_eq, List.all_eq_true]
          exact ⟨hcl, hc2⟩
        subst hc3
        simp [tyM, join_ones' cs _ (le_LIM (by omega))]
        exact ⟨cs, hk, rfl, _, rfl⟩
end Dl
namespace Dl
open PySem L2
theorem ints_get {n : Nat} {i : Nat} {x : D} (h : (intsD 0 n)[i]? = some x) : i < n ∧ x = .int i := by
  have hi := (List.getElem?_eq_some_iff.mp h).1
  rw [intsD_len] at hi
  rw [ints_at 0 n i hi] at h
  cases h
  exact ⟨hi, by simp⟩
theorem ixN_last (n : Nat) : ixN (n + 1) (-1) = some n := by
  have h1 : ¬ (0 : Int) ≤ -1 := by decide
  have h2 : -(((n + 1 : Nat)) : Int) ≤ -1 := by omega
  rw [ixN, if_neg h1, if_pos h2]
  congr 1
  omega
theorem mem_encP {p : Page} {y : D} (h : y ∈ encP p) : ∃ r, r ∈ p ∧ y = encR r := by
  obtain ⟨r, hr, rfl⟩ := List.mem_map.mp h; exact ⟨r, hr, rfl⟩
def m_law_row : FV := funD 4 (d_law_row m_law_cell)
theorem row_ok (b : Box) (rest : Store) (sorts : List Int) (n : Int) (h1 : 1 ≤ n) (h6 : n ≤ 6) (hs : sorts.length = 6) : ∃ r b', okRow r = true ∧ m_law_row [.ref 1, .lst (sorts.map .int), .int n] (Bx b rest) = .ok (encR r, Bx b' rest) := by
  unfold m_law_row funD d_law_row
  have m1 : -1000000 ≤ n ∧ n ≤ 1000000 := by omega
  have m2 : n.toNat ≤ LIM := le_LIM (by omega)
  simp [m1, m2]
  generalize hf : lcGo _ _ _ _ _ _ _ _ = r
  obtain ⟨acc, s, rfl, cs, b', hc1, hc2, rfl, hc3⟩ := lc_at hf (fun i acc st' => ∃ cs b', cs.length = i ∧ (∀ c ∈ cs, okCell c = true) ∧ acc = cs.map D.str ∧ st' = Bx b' rest) ⟨[], b, rfl, by simp, rfl, rfl⟩ (fun _ _ _ _ _ => rfl) (fun i x acc st' hi ⟨cs, b', e1, e2, e3, e4⟩ => by
    subst e3 e4
    obtain ⟨hi, rfl⟩ := ints_get hi
    have his : i < sorts.length := by omega
    obtain ⟨c, b2, hc, ec⟩ := cell_ok b' rest sorts[i]
    have ei : atI (sorts.map D.int) (i : Int) = some (.int sorts[i]) := by rw [atI_nat]; simp [his]
    refine ⟨_, rfl, ?_⟩
    simp [ixG, lstOf, ei, ec]
    exact ⟨cs ++ [c], by simp [e1], fun x hx => by simp at hx; rcases hx with hx | rfl <;> first | exact e2 _ hx | exact hc, by simp, _, rfl⟩)
  subst hc3
  rw [intsD_len] at hc1
  simp [tupG, lstOf]
  refine ⟨cs, ?_, rfl, _, rfl⟩
  simp only [okRow, Bool.and_eq_true, decide_eq_true_eq, List.all_eq_true]
  exact ⟨⟨by omega, by omega⟩, hc2⟩
def m_law_page : FV := funD 8 (d_law_page m_law_take m_law_row)
theorem page_ok (b : Box) (rest : Store) (n : Int) (h1 : 1 ≤ n) (h6 : n ≤ 30) : ∃ p b', okPage p = true ∧ (p.length : Int) ≤ n ∧ m_law_page [.ref 1, .int n] (Bx b rest) = .ok (.ref (rest.length + 2), Bx b' (rest ++ [.lst (encP p)])) := by
  unfold m_law_page funD d_law_page
  have m1 : -1000000 ≤ n ∧ n ≤ 1000000 := by omega
  have m2 : n.toNat ≤ LIM := le_LIM (by omega)
  simp [show (6 : Int).toNat = 6 from rfl]
  generalize hf : lcGo _ _ _ _ _ _ _ _ = r
  obtain ⟨acc, s, rfl, cs, b', hc1, rfl, hc3⟩ := lc_at hf (fun i acc st' => ∃ cs b', cs.length = i ∧ acc = cs.map D.int ∧ st' = Bx b' rest) ⟨[], b, rfl, rfl, rfl⟩ (fun _ _ _ _ _ => rfl) (fun i x acc st' hi ⟨cs, b', e1, e3, e4⟩ => by
    subst e3 e4
    refine ⟨_, rfl, ?_⟩
    simp [take_eq]
    exact ⟨cs ++ [_], by simp [e1], by simp; rfl, _, rfl⟩)
  subst hc3
  rw [intsD_len] at hc1
  simp [take_eq, addG]
  have k0 := tk_lo b' (n := 6) (by decide)
  have k1 := tk_hi b' (n := 6) (by decide)
  generalize tk b' 6 = q at k0 k1 ⊢
  obtain ⟨m, b⟩ := q
  simp only at k0 k1 ⊢
  have n0 : 0 < n := by omega
  have n64 : n < 18446744073709551616 := by omega
  have z0 := tk_lo b n0
  have z1 := tk_hi b n0
  simp [n0, n64, take_eq, addG]
  generalize tk b n = q at z0 z1 ⊢
  obtain ⟨t, b⟩ := q
  simp only at z0 z1 ⊢
  have m1 : -1000000 ≤ 1 + t ∧ 1 + t ≤ 1000000 := by omega
  simp [m1]
  generalize hf : forGo _ _ _ _ _ _ = r
  obtain ⟨e, st, rfl, p, b', many, a5, a6, a7, e1, e2, rfl, e4, he⟩ := for_at hf (fun i env st' => ∃ p b' many a5 a6 a7, p.length = i ∧ (∀ r ∈ p, okRow r = true) ∧ st' = Bx b' (rest ++ [.lst (encP p)]) ∧ (1 ≤ many ∧ many ≤ 6) ∧ env = [some (.ref 1), some (.int n), some (.lst (cs.map D.int)), some (.int many), some (.ref (rest.length + 2)), a5, a6, a7])
    ⟨[], b, _, _, _, _, rfl, by simp, rfl, by omega, rfl⟩ (fun _ _ _ _ _ => rfl) (fun i x env st' hi ⟨p, b, many, a5, a6, a7, e1, e2, e3, e4, e5⟩ => by
      subst e3 e5
      obtain ⟨hi, rfl⟩ := ints_get hi
      have w0 := tk_lo b (n := 8) (by decide)
      have w1 := tk_hi b (n := 8) (by decide)
      have v0 := tk_lo (tk b 8).2 (n := 6) (by decide)
      have v1 := tk_hi (tk b 8).2 (n := 6) (by decide)
      obtain ⟨y, ey, my⟩ := atI_mem (l := [D.int (1 + (tk (tk b 8).2 6).1), D.int (max 1 (many - 1)), D.int (min 6 (many + 1)), D.int many]) (i := min (tk b 8).1 3) (by omega) (by
        show min (tk b 8).1 3 < 4
        omega)
      have hy : ∃ n : Int, y = .int n ∧ 1 ≤ n ∧ n ≤ 6 := by
        simp at my
        rcases my with rfl | rfl | rfl | rfl <;> exact ⟨_, rfl, by omega, by omega⟩
      obtain ⟨k, rfl, k1, k2⟩ := hy
      obtain ⟨r, b2, hr, er⟩ := row_ok (tk (tk b 8).2 6).2 (rest ++ [.lst (encP p)]) cs k k1 k2 hc1
      have pl : p.length < LIM := lt_LIM (by omega)
      simp [take_eq, addG, subG, maxG, minG, ixG, lstOf, ey, er, tyM, appendG, pl]
      by_cases h7 : (tk b 8).1 = 7
      · have c0 : (0 : Int) < p.length + 1 := by omega
        have c1 : (p.length : Int) + 1 < 18446744073709551616 := by omega
        have u0 := tk_lo b2 c0
        have u1 := tk_hi b2 c0
        obtain ⟨y, ey2, my2⟩ := atI_mem (l := encP p ++ [encR r]) (i := (tk b2 ((p.length : Int) + 1)).1) u0 (by simp; omega)
        have hy : ∃ r2, okRow r2 = true ∧ y = encR r2 := by
          rcases List.mem_append.mp my2 with h | h
          · obtain ⟨r2, m, rfl⟩ := mem_encP h; exact ⟨r2, e2 _ m, rfl⟩
          · simp at h; exact ⟨r, hr, h⟩
        obtain ⟨r2, hr2, rfl⟩ := hy
        have er2 : lenG (Bx (tk b2 ((p.length : Int) + 1)).2 (rest ++ [.lst (encP p ++ [encR r2])])) [encR r2] = .ok (.int r2.length, Bx (tk b2 ((p.length : Int) + 1)).2 (rest ++ [.lst (encP p ++ [encR r2])])) := by simp [lenG, encR]
        have es : (encP p ++ [encR r]).set p.length (encR r2) = encP p ++ [encR r2] := by
          rw [← encP_len p, List.set_append_right _ _ (Nat.le_refl _)]; simp
        have el : lenG (Bx b2 (rest ++ [.lst (encP p ++ [encR r])])) [.ref (rest.length + 2)] = .ok (.int ((p.length : Int) + 1), Bx b2 (rest ++ [.lst (encP p ++ [encR r])])) := by simp [lenG, lstOf]
        simp [h7, el, ixG, lstOf, take_eq, c0, c1, ey2, setLG, ixN_last, es, atI_last, er2]
        simp only [okRow, Bool.and_eq_true, decide_eq_true_eq] at hr2
        refine ⟨p ++ [r2], by simp [e1], fun x hx => ?_, ⟨_, by simp [encP]; rfl⟩, by omega, by omega⟩
        simp at hx
        rcases hx with hx | rfl
        · exact e2 _ hx
        · simp only [okRow, Bool.and_eq_true, decide_eq_true_eq]; exact hr2
      · simp [h7]
        refine ⟨p ++ [r], by simp [e1], fun x hx => ?_, ⟨_, by simp [encP]; rfl⟩, k1, k2⟩
        simp at hx
        rcases hx with hx | rfl
        · exact e2 _ hx
        · exact hr)
  subst he
  rw [intsD_len] at e1
  simp
  refine ⟨p, ?_, by omega, _, rfl⟩
  simp only [okPage, Bool.and_eq_true, decide_eq_true_eq, List.all_eq_true]
  exact ⟨⟨by omega, by omega⟩, e2⟩
end Dl
namespace Dl
open PySem L2
theorem okRow_parts {r : Row} (h : okRow r = true) : 1 ≤ r.length ∧ r.length ≤ 6 ∧ ∀ c ∈ r, okCell c = true := by
  simp only [okRow, Bool.and_eq_true, decide_eq_true_eq, List.all_eq_true] at h
  exact ⟨h.1.1, h.1.2, h.2⟩
theorem okPage_parts {p : Page} (h : okPage p = true) : 1 ≤ p.length ∧ p.length ≤ 30 ∧ ∀ r ∈ p, okRow r = true := by
  simp only [okPage, Bool.and_eq_true, decide_eq_true_eq, List.all_eq_true] at h
  exact ⟨h.1.1, h.1.2, h.2⟩
theorem okCell_parts {c : List Nat} (h : okCell c = true) : c.length ≤ 10 ∧ ∀ x ∈ c, 32 ≤ x ∧ x ≤ 126 ∧ x ≠ 37 := by
  simp only [okCell, Bool.and_eq_true, decide_eq_true_eq, List.all_eq_true] at h
  refine ⟨h.1, fun x hx => ?_⟩
  have := h.2 x hx
  simp only [okSign, Bool.and_eq_true, decide_eq_true_eq] at this
  omega
theorem take_snoc {A : Type} {l : List A} {i : Nat} {a : A} (h : l[i]? = some a) : l.take (i + 1) = l.take i ++ [a] := by
  rw [List.take_add_one, h]; rfl
theorem ix_list {st : Store} {d : D} {w : Wk} (h : listOf st d = some w) (i : Int) : ixG st d (.int i) = R.of ((atI w.1 i).map fun x => (x, st)) := by
  have e := lst_list h
  unfold listOf at h
  split at h
  · simp [ixG, e]
  · simp [ixG, e]
  · cases h
theorem is_list {st : Store} {d : D} {w : Wk} (h : listOf st d = some w) : isG false st d .non = .ok (.bl false, st) := by
  unfold listOf at h
  split at h
  · rfl
  · rfl
  · cases h
theorem alike_list {n : Nat} {f g : D} {ds : List D} {w w' : List (Nat × List D)} {st : Store} (hf : listOf st f = some (ds, w)) (hg : listOf st g = some (ds, w')) (hl : ds.length ≤ 1000000) (h : ∀ d ∈ ds, l_law_alike n [d, d] st = .ok (.bl true, st)) :
    l_law_alike (n + 1) [f, g] st = .ok (.bl true, st) := by
  rw [l_law_alike]
  unfold funD d_law_alike
  have m1 : -1000000 ≤ (ds.length : Int) ∧ (ds.length : Int) ≤ 1000000 := by omega
  simp [is_list hg, ty_list hg, ty_list hf, subTy, len_list hf, len_list hg, m1]
  generalize q : forGo _ _ _ _ _ _ = r
  obtain ⟨e, s, rfl, rfl, a, rfl⟩ := for_at q (fun i env st' => st' = st ∧ ∃ a, env = [some f, some g, a]) ⟨rfl, _, rfl⟩ (fun _ _ _ _ _ => rfl) (fun i x env st' hi ⟨e1, a, e2⟩ => by
    subst e1 e2
    obtain ⟨hi, rfl⟩ := ints_get hi
    have z := h ds[i] (by simp)
    have ei : atI ds (i : Int) = some ds[i] := by rw [atI_nat]; simp [hi]
    simp [ix_list hf, ix_list hg, ei, z])
  simp
theorem alike_tup {n : Nat} {ds : List D} {st : Store} (hl : ds.length ≤ 1000000) (h : ∀ d ∈ ds, l_law_alike n [d, d] st = .ok (.bl true, st)) :
    l_law_alike (n + 1) [.tup ds, .tup ds] st = .ok (.bl true, st) := by
  rw [l_law_alike]
  unfold funD d_law_alike
  have m1 : -1000000 ≤ (ds.length : Int) ∧ (ds.length : Int) ≤ 1000000 := by omega
  simp [isG, tyOf, subTy, lenG, m1]
  generalize q : forGo _ _ _ _ _ _ = r
  obtain ⟨e, s, rfl, rfl, a, rfl⟩ := for_at q (fun i env st' => st' = st ∧ ∃ a, env = [some (.tup ds), some (.tup ds), a]) ⟨rfl, _, rfl⟩ (fun _ _ _ _ _ => rfl) (fun i x env st' hi ⟨e1, a, e2⟩ => by
    subst e1 e2
    obtain ⟨hi, rfl⟩ := ints_get hi
    have z := h ds[i] (by simp)
    have ei : atI ds (i : Int) = some ds[i] := by rw [atI_nat]; simp [hi]
    simp [ixG, ei, z])
  simp
theorem alike_row {n : Nat} (r : Row) (st : Store) (h : okRow r = true) : l_law_alike (n + 2) [encR r, encR r] st = .ok (.bl true, st) := by
  refine alike_tup (by have := (okRow_parts h).2.1; simp; omega) fun d hd => ?_
  obtain ⟨c, _, rfl⟩ := List.mem_map.mp hd
  simp [alike_str]
theorem alike_page {n : Nat} {p : Page} {f g : D} {w w' : List (Nat × List D)} {st : Store} (hf : listOf st f = some (encP p, w)) (hg : listOf st g = some (encP p, w')) (h : okPage p = true) : l_law_alike (n + 3) [f, g] st = .ok (.bl true, st) := by
  obtain ⟨h1, h2, h3⟩ := okPage_parts h
  refine alike_list hf hg (by simp; omega) fun d hd => ?_
  obtain ⟨r, hr, rfl⟩ := mem_encP hd
  exact alike_row r st (h3 r hr)
end Dl
namespace Dl
open PySem L2
def All2 {A B : Type} (R : A → B → Prop) : List A → List B → Prop
  | [], [] => True
  | a :: as, b :: bs => R a b ∧ All2 R as bs
  | _, _ => False
theorem All2.len {A B : Type} {R : A → B → Prop} : ∀ {as : List A} {bs : List B}, All2 R as bs → as.length = bs.length
  | [], [], _ => rfl
  | a :: as, b :: bs, h => by simp [All2.len h.2]
  | [], _ :: _, h => h.elim
  | _ :: _, [], h => h.elim
theorem All2.imp {A B : Type} {R S : A → B → Prop} (k : ∀ a b, R a b → S a b) : ∀ {as : List A} {bs : List B}, All2 R as bs → All2 S as bs
  | [], [], _ => trivial
  | a :: as, b :: bs, h => ⟨k _ _ h.1, All2.imp k h.2⟩
  | [], _ :: _, h => h.elim
  | _ :: _, [], h => h.elim
theorem All2.app {A B : Type} {R : A → B → Prop} : ∀ {as as' : List A} {bs bs' : List B}, All2 R as bs → All2 R as' bs' → All2 R (as ++ as') (bs ++ bs')
  | [], _, [], _, _, k => k
  | a :: as, _, b :: bs, _, h, k => ⟨h.1, All2.app h.2 k⟩
  | [], _, _ :: _, _, h, _ => h.elim
  | _ :: _, _, [], _, h, _ => h.elim
theorem All2.get {A B : Type} {R : A → B → Prop} : ∀ {as : List A} {bs : List B} {i : Nat} {a : A}, All2 R as bs → as[i]? = some a → ∃ b, bs[i]? = some b ∧ R a b
  | a :: as, b :: bs, 0, x, h, e => by simp at e; subst e; exact ⟨b, rfl, h.1⟩
  | a :: as, b :: bs, i + 1, x, h, e => by simpa using All2.get h.2 (by simpa using e)
  | [], [], _, _, _, e => by simp at e
  | [], _ :: _, _, _, h, _ => h.elim
  | _ :: _, [], _, _, h, _ => h.elim
mutual
/-- d reads as the plain x -/
def Rd (st : Store) : D → D → Prop
  | d, .tup xs => ∃ ds, d = .tup ds ∧ Rds st ds xs
  | d, .lst xs => ∃ ds w, listOf st d = some (ds, w) ∧ Rds st ds xs
  | d, .non => d = .non
  | d, .bl b => d = .bl b
  | d, .int i => d = .int i
  | d, .str s => d = .str s
  | _, .ref _ => False
  | _, .scr _ => False
  | _, .exn _ _ => False
def Rds (st : Store) : List D → List D → Prop
  | [], [] => True
  | d :: ds, x :: xs => Rd st d x ∧ Rds st ds xs
  | _, _ => False
end
/-- what stays of the store -/
def Stays (st st' : Store) : Prop := ∀ (k : Nat) (ds : List D), st[k]? = some (.lst ds) → st'[k]? = some (.lst ds)
theorem listOf_stays {st st' : Store} (s : Stays st st') {d : D} {w : Wk} (h : listOf st d = some w) : listOf st' d = some w := by
  unfold listOf at h
  split at h
  · exact h
  · split at h
    · rename_i n ds e
      cases h
      have e' := s _ _ e
      simp [listOf, e']
    · cases h
  · cases h
mutual
theorem Rd.stays {st st' : Store} (s : Stays st st') : ∀ {x d : D}, Rd st d x → Rd st' d x
  | .tup xs, d, h => by
    rw [Rd] at h ⊢
    obtain ⟨ds, e, k⟩ := h
    exact ⟨ds, e, Rds.stays s k⟩
  | .lst xs, d, h => by
    rw [Rd] at h ⊢
    obtain ⟨ds, w, e, k⟩ := h
    exact ⟨ds, w, listOf_stays s e, Rds.stays s k⟩
  | .non, d, h => by rw [Rd] at h ⊢; exact h
  | .bl _, d, h => by rw [Rd] at h ⊢; exact h
  | .int _, d, h => by rw [Rd] at h ⊢; exact h
  | .str _, d, h => by rw [Rd] at h ⊢; exact h
  | .ref _, d, h => by rw [Rd] at h; exact h.elim
  | .scr _, d, h => by rw [Rd] at h; exact h.elim
  | .exn _ _, d, h => by rw [Rd] at h; exact h.elim
theorem Rds.stays {st st' : Store} (s : Stays st st') : ∀ {xs ds : List D}, Rds st ds xs → Rds st' ds xs
  | [], [], h => by rw [Rds] at h ⊢; trivial
  | x :: xs, d :: ds, h => by
    rw [Rds] at h ⊢
    exact ⟨Rd.stays s h.1, Rds.stays s h.2⟩
  | [], _ :: _, h => by simp [Rds] at h
  | _ :: _, [], h => by simp [Rds] at h
end
theorem Stays.app (st more : Store) : Stays st (st ++ more) := fun k ds e => by
  have h := (List.getElem?_eq_some_iff.mp e).1
  rw [List.getElem?_append_left h]; exact e
theorem Stays.refl (st : Store) : Stays st st := fun _ _ e => e
theorem Stays.trans {a b c : Store} (x : Stays a b) (y : Stays b c) : Stays a c := fun k ds e => y k ds (x k ds e)
mutual
/-- no list of it is too long -/
def D.sm : D → Bool
  | .tup ds => decide (ds.length ≤ 1000000) && D.sms ds
  | .lst ds => decide (ds.length ≤ 1000000) && D.sms ds
  | _ => true
def D.sms : List D → Bool
  | [] => true
  | d :: ds => D.sm d && D.sms ds
end
end Dl
namespace Dl
open PySem L2
/-- is_number: 3 slots, 3 parameters -/
def d_is_number : SV := sRet (eAnd (eIs "int" (eV 0)) (eAnd (eNot (eIs "bool" (eV 0))) (eChain leG leG (eV 1) (eV 0) (eV 2))))
/-- need_style: 1 slots, 1 parameters -/
def d_need_style (m_is_number : FV) : SV := sCons (sIf (tOrD (tNotD (tv (eIs "tuple" (eV 0)))) (tv (eOp (eqG true) (eB lenG (aCons (eV 0) (aNil))) (eC (.int 2))))) (sBad) (sNext)) (sIf (tOrD (tNotD (tv (eCall 3 m_is_number (aCons (eOp ixG (eV 0) (eC (.int 0))) (aCons (eC (.int 0)) (aCons (eC (.int 4)) (aNil))))))) (tNotD (tv (eCall 3 m_is_number (aCons (eOp ixG (eV 0) (eC (.int 1))) (aCons (eC (.int 0)) (aCons (eC (.int 12)) (aNil)))))))) (sBad) (sNext))
/-- Stretch_init: 4 slots, 4 parameters -/
def d_Stretch_init : SV := sCons (sFldD 12 "column" (eV 0) (eV 1)) (sCons (sFldD 12 "begin" (eV 0) (eV 2)) (sCons (sFldD 12 "end" (eV 0) (eOp (addG false) (eV 2) (eB lenG (aCons (eV 3) (aNil))))) (sFldD 12 "cells" (eV 0) (eV 3))))
/-- stretches_of: 9 slots, 4 parameters -/
def d_stretches_of (m_Stretch_init : FV) : SV := sCons (sAsg (eLst true (aNil)) (gN 4)) (sCons (sAsg (eC .non) (gN 5)) (sCons (sFor (iR2 (aCons (eV 2) (aCons (eOp (addG false) (eV 3) (eC (.int 1))) (aNil)))) (gN 6) (sCons (sAsg (eAnd (eOp ltG (eV 6) (eV 3)) (eOp gtG (eB lenG (aCons (eOp ixG (eV 0) (eV 6)) (aNil))) (eOp (addG false) (eV 1) (eC (.int 1))))) (gN 7)) (sCons (sIf (tAndD (tv (eV 7)) (tv (eOp (isG false) (eV 5) (eC .non)))) (sAsg (eV 6) (gN 5)) (sNext)) (sIf (tAndD (tNotD (tv (eV 7))) (tv (eOp (isG true) (eV 5) (eC .non)))) (sCons (sExpr (eMt "list" (appendG) (eV 4) (aCons (eMake 12 4 m_Stretch_init (aCons (eV 1) (aCons (eV 5) (aCons (eLc false (iR2 (aCons (eV 5) (aCons (eV 6) (aNil)))) [8] (.one 8) (tYesD) (eOp ixG (eOp ixG (eV 0) (eV 8)) (eV 1))) (aNil))))) (aNil)))) (sAsg (eC .non) (gN 5))) (sNext))))) (sRet (eV 4))))
/-- all_stretches: 3 slots, 1 parameters -/
def d_all_stretches (m_stretches_of : FV) : SV := sCons (sAsg (eLst true (aNil)) (gN 1)) (sCons (sFor (iR1 (aCons (eOp subG (eC (.int 6)) (eC (.int 1))) (aNil))) (gN 2) (sExpr (eMt "list" (extendG) (eV 1) (aCons (eCall 4 m_stretches_of (aCons (eV 0) (aCons (eV 2) (aCons (eC (.int 0)) (aCons (eB lenG (aCons (eV 0) (aNil))) (aNil)))))) (aNil))))) (sRet (eV 1)))
/-- is_figures: 3 slots, 1 parameters -/
def d_is_figures : SV := sCons (sAsg (eIf (tv (eOp (eqG false) (eSl false (eV 0) (poNone) (poSome (eC (.int 1)))) (eC (.str [45])))) (eSl false (eV 0) (poSome (eC (.int 1))) (poNone)) (eV 0)) (gN 1)) (sRet (eAnd (eOp (eqG true) (eV 1) (eC (.str []))) (eOp (eqG false) (eLc false (iSeq (eV 1)) [2] (.one 2) (tv (eOp (inG true) (eV 2) (eC (.str [48, 49, 50, 51, 52, 53, 54, 55, 56, 57])))) (eV 2)) (eLst false (aNil)))))
/-- Stretch_is_right: 3 slots, 1 parameters -/
def d_Stretch_is_right (m_is_figures : FV) : SV := sCons (sAsg (eLc false (iSeq (eFld 12 "cells" (eV 0))) [2] (.one 2) (tv (eOp (eqG true) (eV 2) (eC (.str [])))) (eV 2)) (gN 1)) (sRet (eAnd (eOp (eqG true) (eV 1) (eLst false (aNil))) (eOp (eqG false) (eLc false (iSeq (eV 1)) [2] (.one 2) (tNotD (tv (eCall 1 m_is_figures (aCons (eV 2) (aNil))))) (eV 2)) (eLst false (aNil)))))
/-- Stretch_width: 3 slots, 2 parameters -/
def d_Stretch_width : SV := sRet (eB maxG (aCons (eOp ixG (eV 1) (eC (.int 1))) (aCons (eOp (addG false) (eB maxG (aCons (eLc false (iSeq (eFld 12 "cells" (eV 0))) [2] (.one 2) (tYesD) (eB lenG (aCons (eV 2) (aNil)))) (aNil))) (eOp ixG (eV 1) (eC (.int 0)))) (aNil))))
end Dl
namespace Dl
open PySem L2
def m_is_number : FV := funD 3 d_is_number
@[simp] theorem is_number_int (i lo hi : Int) (st : Store) : m_is_number [.int i, .int lo, .int hi] st = .ok (.bl (decide (lo ≤ i ∧ i ≤ hi)), st) := by
  unfold m_is_number funD d_is_number
  simp [tyOf, subTy, leG]
  by_cases h : lo ≤ i <;> simp [h]
def m_need_style : FV := funD 1 (d_need_style m_is_number)
structure Sty where
  g : Int
  l : Int
def Sty.ok (s : Sty) : Prop := (0 ≤ s.g ∧ s.g ≤ 4) ∧ 0 ≤ s.l ∧ s.l ≤ 12
def Sty.enc (s : Sty) : D := .tup [.int s.g, .int s.l]
theorem need_style_ok {s : Sty} (h : s.ok) (st : Store) : m_need_style [s.enc] st = .ok (.non, st) := by
  unfold m_need_style funD d_need_style Sty.enc
  simp [tyOf, subTy, lenG, ixG, h.1.1, h.1.2, h.2.1, h.2.2]
def m_law_style : FV := funD 2 (d_law_style m_law_take)
theorem style_ok (b : Box) (rest : Store) : ∃ s b', Sty.ok s ∧ m_law_style [.ref 1] (Bx b rest) = .ok (s.enc, Bx b' rest) := by
  unfold m_law_style funD d_law_style
  have a0 := tk_lo b (n := 5) (by decide)
  have a1 := tk_hi b (n := 5) (by decide)
  have b0 := tk_lo (tk b 5).2 (n := 3) (by decide)
  have b1 := tk_hi (tk b 5).2 (n := 3) (by decide)
  obtain ⟨y, ey, my⟩ := atI_mem (l := [D.int (tk b 5).1, D.int 1, D.int 2]) (i := (tk (tk b 5).2 3).1) b0 b1
  have hy : ∃ n : Int, y = .int n ∧ 0 ≤ n ∧ n ≤ 4 := by
    simp at my
    rcases my with rfl | rfl | rfl <;> exact ⟨_, rfl, by omega, by omega⟩
  obtain ⟨g, rfl, g0, g1⟩ := hy
  simp [take_eq, ixG, lstOf, ey]
  generalize (tk (tk b 5).2 3).2 = b
  have a0 := tk_lo b (n := 13) (by decide)
  have a1 := tk_hi b (n := 13) (by decide)
  have c0 := tk_lo (tk b 13).2 (n := 13) (by decide)
  have c1 := tk_hi (tk b 13).2 (n := 13) (by decide)
  have b0 := tk_lo (tk (tk b 13).2 13).2 (n := 3) (by decide)
  have b1 := tk_hi (tk (tk b 13).2 13).2 (n := 3) (by decide)
  obtain ⟨y, ez, my⟩ := atI_mem (l := [D.int 0, D.int (tk b 13).1, D.int (tk (tk b 13).2 13).1]) (i := (tk (tk (tk b 13).2 13).2 3).1) b0 b1
  have hy : ∃ n : Int, y = .int n ∧ 0 ≤ n ∧ n ≤ 12 := by
    simp at my
    rcases my with rfl | rfl | rfl <;> exact ⟨_, rfl, by omega, by omega⟩
  obtain ⟨l, rfl, l0, l1⟩ := hy
  simp [ez]
  exact ⟨⟨g, l⟩, ⟨⟨g0, g1⟩, l0, l1⟩, rfl, _, rfl⟩
def figs (s : List Nat) : Bool :=
  let rest := if s.take 1 = [45] then s.drop 1 else s
  decide (rest ≠ []) && rest.all fun c => decide (48 ≤ c ∧ c ≤ 57)
theorem cut_to {A : Type} (xs : List A) (k : Nat) : cutD xs none (some (k : Int)) = xs.take k := by
  unfold cutD
  rw [HT.sIx_none, HT.sIx_nat]
  simp
theorem cut_from {A : Type} (xs : List A) (k : Nat) : cutD xs (some (k : Int)) none = xs.drop k := by
  unfold cutD
  rw [HT.sIx_nat, HT.sIx_none]
  by_cases h : k ≤ xs.length
  · rw [Nat.min_eq_left h, List.take_of_length_le (by simp)]
  · rw [Nat.min_eq_right (by omega)]
    simp
    omega
def m_is_figures : FV := funD 3 d_is_figures
theorem is_figures_str (s : List Nat) (h : s.length ≤ 1000000) (st : Store) : m_is_figures [.str s] st = .ok (.bl (figs s), st) := by
  unfold m_is_figures funD d_is_figures
  have c1 : cutD s none (some 1) = s.take 1 := cut_to s 1
  have c2 : cutD s (some 1) none = s.drop 1 := cut_from s 1
  have key : ∀ rest : List Nat, rest.length ≤ 1000000 → ((eAnd (eOp (eqG true) (eV 1) (eC (.str []))) (eOp (eqG false) (eLc false (iSeq (eV 1)) [2] (.one 2) (tv (eOp (inG true) (eV 2) (eC (.str [48, 49, 50, 51, 52, 53, 54, 55, 56, 57])))) (eV 2)) (eLst false (aNil)))) [some (.str s), some (.str rest), none] st)
      = .ok (.bl (decide (rest ≠ []) && rest.all fun c => decide (48 ≤ c ∧ c ≤ 57)), st) := fun rest hr => by
    by_cases h0 : rest = []
    · simp [h0]
    · have hl : rest.length ≤ LIM := le_LIM hr
      simp [h0, itemsOf, hl]
      rw [lc_keep rfl (fun d => match d with | .str [c] => !decide (48 ≤ c ∧ c ≤ 57) | _ => true) _ (fun d hd => ?_) (by simp)]
      · have e : (rest.map fun c => D.str [c]).filter (fun d => match d with | .str [c] => !decide (48 ≤ c ∧ c ≤ 57) | _ => true) = ((rest.filter fun c => !decide (48 ≤ c ∧ c ≤ 57)).map fun c => [c]).map D.str := by
          rw [List.filter_map, List.map_map]; rfl
        simp only [e]
        rw [eq_nilD (pls_strs _) (Nat.le_trans (dps_strs _) (by decide))]
        simp only [List.map_eq_nil_iff]
        congr 3
        rw [Bool.eq_iff_iff]
        simp [List.filter_eq_nil_iff]
      · obtain ⟨c, _, rfl⟩ := List.mem_map.mp hd
        have key : (c ∈ ([48, 49, 50, 51, 52, 53, 54, 55, 56, 57] : List Nat)) ↔ (48 ≤ c ∧ c ≤ 57) := by simp; omega
        simp only [List.set_cons_succ, List.set_cons_zero, r_tv, r_eOp, r_eV, r_eC, bind_m, List.getElem?_cons_succ, List.getElem?_cons_zero, inG, if_true, decide_eq_decide.mpr key]
  by_cases hc : s.take 1 = [45]
  · have k := key (s.drop 1) (by simp; omega)
    simp only [figs, if_pos hc]
    simp [slG, c1, c2, hc, -r_eAnd]
    rw [List.drop_one] at k
    rw [k]
    simp
  · have k := key s h
    simp only [figs, if_neg hc]
    simp [slG, c1, c2, hc, -r_eAnd]
    rw [k]
    simp
def clo (p : Page) (c k : Nat) : Bool := match p[k]? with
  | some r => decide (c + 1 < r.length)
  | none => false
theorem clo_out {p : Page} {c k : Nat} (h : p.length ≤ k) : clo p c k = false := by
  unfold clo; rw [List.getElem?_eq_none h]
theorem clo_at {p : Page} {c k : Nat} {r : Row} (h : p[k]? = some r) : clo p c k = decide (c + 1 < r.length) := by
  unfold clo; rw [h]
theorem clo_row {p : Page} {c k : Nat} (h : clo p c k = true) : ∃ r, p[k]? = some r ∧ c + 1 < r.length := by
  unfold clo at h
  cases e : p[k]? with
  | none => rw [e] at h; cases h
  | some r => rw [e] at h; exact ⟨r, rfl, of_decide_eq_true h⟩
def rEnd (f : Nat → Bool) : Nat → Nat → Nat
  | 0, k => k
  | n + 1, k => if f k = true then rEnd f n (k + 1) else k
/-- where the run that holds k ends -/
def endOf (p : Page) (c k : Nat) : Nat := rEnd (clo p c) (p.length - k) k
theorem rEnd_eq {f : Nat → Bool} : ∀ {n k e : Nat}, k ≤ e → e ≤ k + n → (∀ j, k ≤ j → j < e → f j = true) → f e = false → rEnd f n k = e
  | 0, k, e, h1, h2, _, _ => by unfold rEnd; omega
  | n + 1, k, e, h1, h2, h3, h4 => by
    unfold rEnd
    by_cases h : k = e
    · subst h; rw [if_neg (by simp [h4])]
    · rw [if_pos (h3 k (Nat.le_refl _) (by omega))]
      exact rEnd_eq (by omega) (by omega) (fun j a b => h3 j (by omega) b) h4
theorem rEnd_ok {f : Nat → Bool} : ∀ {n k : Nat}, f (k + n) = false → k ≤ rEnd f n k ∧ rEnd f n k ≤ k + n ∧ (∀ j, k ≤ j → j < rEnd f n k → f j = true) ∧ f (rEnd f n k) = false
  | 0, k, h => by
    unfold rEnd
    exact ⟨Nat.le_refl _, Nat.le_refl _, fun j a b => by omega, h⟩
  | n + 1, k, h => by
    unfold rEnd
    by_cases hk : f k = true
    · rw [if_pos hk]
      obtain ⟨a, b, c, d⟩ := rEnd_ok (f := f) (n := n) (k := k + 1) (by rw [show k + 1 + n = k + (n + 1) by omega]; exact h)
      refine ⟨by omega, by omega, fun j x y => ?_, d⟩
      by_cases z : j = k
      · subst z; exact hk
      · exact c j (by omega) y
    · rw [if_neg hk]
      exact ⟨Nat.le_refl _, by omega, fun j a b => by omega, by simpa using hk⟩
theorem endOf_ok {p : Page} {c k : Nat} (h : k ≤ p.length) : k ≤ endOf p c k ∧ endOf p c k ≤ p.length ∧ (∀ j, k ≤ j → j < endOf p c k → clo p c j = true) ∧ clo p c (endOf p c k) = false := by
  have := rEnd_ok (f := clo p c) (n := p.length - k) (k := k) (clo_out (by omega))
  rw [show k + (p.length - k) = p.length by omega] at this
  exact this
theorem endOf_eq {p : Page} {c k e : Nat} (h : k ≤ e) (h2 : e ≤ p.length) (h3 : ∀ j, k ≤ j → j < e → clo p c j = true) (h4 : clo p c e = false) : endOf p c k = e := rEnd_eq h (by omega) h3 h4
/-- a run begins at k -/
def isB (p : Page) (c k : Nat) : Bool := clo p c k && (k == 0 || !clo p c (k - 1))
/-- begins ahead of n -/
def begs (p : Page) (c n : Nat) : List Nat := (List.range n).filter (isB p c)
theorem begs_succ (p : Page) (c n : Nat) : begs p c (n + 1) = begs p c n ++ (if isB p c n = true then [n] else []) := by
  unfold begs
  rw [List.range_succ, List.filter_append]
  congr 1
  cases h : isB p c n <;> simp [h]
/-- a stretch: its column, begin, end -/
structure Stt where
  c : Nat
  b : Nat
  e : Nat
def sttOf (p : Page) (c b : Nat) : Stt := ⟨c, b, endOf p c b⟩
def sttsC (p : Page) (c : Nat) : List Stt := (begs p c p.length).map (sttOf p c)
def stts (p : Page) : List Stt := (List.range 5).flatMap (sttsC p)
def cellAt (p : Page) (k c : Nat) : List Nat := (p.getD k []).getD c []
def cellsOf (p : Page) (s : Stt) : List (List Nat) := (List.range (s.e - s.b)).map fun k => cellAt p (s.b + k) s.c
/-- a stretch of the page -/
structure Stt.Of (p : Page) (s : Stt) : Prop where
  c4 : s.c < 5
  lt : s.b < s.e
  le : s.e ≤ p.length
  clo : ∀ j, s.b ≤ j → j < s.e → clo p s.c j = true
  fin : Dl.clo p s.c s.e = false
  beg : isB p s.c s.b = true
theorem begs_mem {p : Page} {c n b : Nat} (h : b ∈ begs p c n) : b < n ∧ isB p c b = true := by
  unfold begs at h
  rw [List.mem_filter, List.mem_range] at h
  exact h
theorem stts_mem {p : Page} {s : Stt} (h : s ∈ stts p) : s.Of p := by
  unfold stts at h
  rw [List.mem_flatMap] at h
  obtain ⟨c, hc, h⟩ := h
  obtain ⟨b, hb, rfl⟩ := List.mem_map.mp h
  obtain ⟨h1, h2⟩ := begs_mem hb
  have e := endOf_ok (p := p) (c := c) (k := b) (by omega)
  have hb : clo p c b = true := by simp only [isB, Bool.and_eq_true] at h2; exact h2.1
  have hne : b ≠ endOf p c b := fun z => by rw [← z, hb] at e; cases e.2.2.2
  exact ⟨List.mem_range.mp hc, by show b < endOf p c b; omega, e.2.1, e.2.2.1, e.2.2.2, h2⟩
end Dl
namespace Dl
open PySem L2
@[simp high] theorem low0 : ((-1000000 : Int) ≤ 0) = True := eq_true (by decide)
@[simp high] theorem hi0 : ((0 : Int) ≤ 1000000) = True := eq_true (by decide)
section
variable (env : Env) (st : Store)
@[simp] theorem r_eMake (c n : Nat) (g : FV) (ga : AV) : eMake c n g ga env st = (ga env st).bind fun a => if a.1.length + 1 = n then (g (.ref a.2.length :: a.1) (a.2 ++ [.ins c []])).bind fun b => match b.1 with
  | .non => .ok (.ref a.2.length, b.2)
  | _ => .bad else .bad := rfl
@[simp] theorem r_eMeth (c : Nat) (m : Str) (n : Nat) (g : FV) (fo : EV) (ga : AV) : eMeth c m n g fo ga env st = (fo env st).bind fun o => match o.1 with
  | .ref i => match o.2[i]? with
    | some (.ins c' fs) => if c' = c ∧ fs.lookup m = none then (ga env o.2).bind fun a => if a.1.length + 1 = n then g (.ref i :: a.1) a.2 else .bad else .bad
    | _ => .bad
  | _ => .bad := rfl
@[simp] theorem r_sFldD (c : Nat) (f : Str) (fo fv : EV) : sFldD c f fo fv env st = sOf (fv env st) fun v => sOf (fo env v.2) fun o => match o.1 with
  | .ref i => match o.2[i]? with
    | some (.ins c' fs) => if c' = c ∧ fs.length < 900 then .nx env (o.2.set i (.ins c' (putD f v.1 fs))) else .bad
    | _ => .bad
  | _ => .bad := rfl
end
def stFs (s : Stt) (cells : List (List Nat)) : List (Str × D) := [("column", .int s.c), ("begin", .int s.b), ("end", .int s.e), ("cells", .lst (cells.map .str))]
def stOb (p : Page) (s : Stt) : Ob := .ins 12 (stFs s (cellsOf p s))
theorem st_col (s : Stt) (cells : List (List Nat)) : (stFs s cells).lookup ("column" : Str) = some (.int s.c) := by
  unfold stFs
  rw [List.lookup_cons, show (("column" : Str) == "column") = true by decide +kernel]
theorem st_beg (s : Stt) (cells : List (List Nat)) : (stFs s cells).lookup ("begin" : Str) = some (.int s.b) := by
  unfold stFs
  rw [List.lookup_cons, show (("begin" : Str) == "column") = false by decide +kernel, List.lookup_cons, show (("begin" : Str) == "begin") = true by decide +kernel]
theorem st_end (s : Stt) (cells : List (List Nat)) : (stFs s cells).lookup ("end" : Str) = some (.int s.e) := by
  unfold stFs
  rw [List.lookup_cons, show (("end" : Str) == "column") = false by decide +kernel, List.lookup_cons, show (("end" : Str) == "begin") = false by decide +kernel, List.lookup_cons, show (("end" : Str) == "end") = true by decide +kernel]
theorem st_cells (s : Stt) (cells : List (List Nat)) : (stFs s cells).lookup ("cells" : Str) = some (.lst (cells.map .str)) := by
  unfold stFs
  rw [List.lookup_cons, show (("cells" : Str) == "column") = false by decide +kernel, List.lookup_cons, show (("cells" : Str) == "begin") = false by decide +kernel, List.lookup_cons, show (("cells" : Str) == "end") = false by decide +kernel, List.lookup_cons, show (("cells" : Str) == "cells") = true by decide +kernel]
theorem st_no {m : Str} (s : Stt) (cells : List (List Nat)) (h1 : (m == "column") = false) (h2 : (m == "begin") = false) (h3 : (m == "end") = false) (h4 : (m == "cells") = false) : (stFs s cells).lookup m = none := by
  unfold stFs
  rw [List.lookup_cons, h1, List.lookup_cons, h2, List.lookup_cons, h3, List.lookup_cons, h4]; rfl
theorem st_width (s : Stt) (cells : List (List Nat)) : (stFs s cells).lookup ("width" : Str) = none := st_no s cells (by decide +kernel) (by decide +kernel) (by decide +kernel) (by decide +kernel)
theorem st_right (s : Stt) (cells : List (List Nat)) : (stFs s cells).lookup ("is_right" : Str) = none := st_no s cells (by decide +kernel) (by decide +kernel) (by decide +kernel) (by decide +kernel)
theorem put_st (a b c d : D) : putD "cells" d (putD "end" c (putD "begin" b (putD "column" a []))) = ([("column", a), ("begin", b), ("end", c), ("cells", d)] : List (Str × D)) := by
  simp only [putD, show ¬ (("column" : Str) = "begin") by decide +kernel, show ¬ (("column" : Str) = "end") by decide +kernel, show ¬ (("column" : Str) = "cells") by decide +kernel, show ¬ (("begin" : Str) = "end") by decide +kernel, show ¬ (("begin" : Str) = "cells") by decide +kernel, show ¬ (("end" : Str) = "cells") by decide +kernel, if_false]
theorem put_len (f : Str) (v : D) : ∀ l : List (Str × D), (putD f v l).length ≤ l.length + 1
  | [] => by simp [putD]
  | (g, u) :: r => by
    unfold putD
    split
    · simp
    · simp only [List.length_cons]; have := put_len f v r; omega
def m_Stretch_init : FV := funD 4 d_Stretch_init
theorem Stretch_init_ok (st : Store) (c b : Nat) (cells : List (List Nat)) : m_Stretch_init [.ref st.length, .int c, .int b, .lst (cells.map .str)] (st ++ [.ins 12 []]) = .ok (.non, st ++ [.ins 12 (stFs ⟨c, b, b + cells.length⟩ cells)]) := by
  unfold m_Stretch_init funD d_Stretch_init
  have l1 := put_len "column" (.int c) []
  have l2 := put_len "begin" (.int b) (putD "column" (.int c) [])
  have l3 := put_len "end" (.int (b + cells.length)) (putD "begin" (.int b) (putD "column" (.int c) []))
  have z : ([] : List (Str × D)).length = 0 := rfl
  rw [z] at l1
  have q1 : (putD "column" (D.int c) []).length < 900 := by omega
  have q2 : (putD "begin" (D.int b) (putD "column" (.int c) [])).length < 900 := by omega
  have q3 : (putD "end" (D.int (b + cells.length)) (putD "begin" (.int b) (putD "column" (.int c) []))).length < 900 := by omega
  clear l1 l2 l3 z
  have pe := put_st (.int c) (.int b) (.int (b + cells.length)) (.lst (cells.map .str))
  simp [addG, lenG, lstOf, q1, q2, q3, pe, stFs]
/-- the references from k on -/
def refs (k n : Nat) : List D := (List.range n).map fun i => .ref (k + i)
theorem refs_succ (k n : Nat) : refs k (n + 1) = refs k n ++ [.ref (k + n)] := by
  unfold refs; rw [List.range_succ, List.map_append]; rfl
@[simp] theorem refs_len (k n : Nat) : (refs k n).length = n := by simp [refs]
def m_stretches_of : FV := funD 9 (d_stretches_of m_Stretch_init)
theorem cellsOf_len (p : Page) (s : Stt) : (cellsOf p s).length = s.e - s.b := by simp [cellsOf]
theorem st_test {p : Page} {d : D} {w : List (Nat × List D)} {S : Store} (hd : listOf S d = some (encP p, w)) (c i : Nat) (a2 a4 a5 a7 a8 : Option D) :
    (eAnd (eOp ltG (eV 6) (eV 3)) (eOp gtG (eB lenG (aCons (eOp ixG (eV 0) (eV 6)) (aNil))) (eOp (addG false) (eV 1) (eC (.int 1)))))
      [some d, some (.int c), a2, some (.int p.length), a4, a5, some (.int i), a7, a8] S = .ok (.bl (clo p c i), S) := by
  by_cases hl : i < p.length
  · obtain ⟨r, hr⟩ : ∃ r, p[i]? = some r := ⟨p[i], by simp [hl]⟩
    have ei : atI (encP p) (i : Int) = some (encR r) := by rw [atI_nat]; simp [encP, hr]
    have hcl : decide ((c : Int) + 1 < (r.length : Int)) = clo p c i := by
      rw [clo_at hr]
      exact decide_eq_decide.mpr (by omega)
    simp [ltG, hl, ix_list hd, ei, addG, gtG]
    simp [encR, lenG, hcl]
  · rw [clo_out (by omega)]
    simp [ltG, hl]
theorem st_made {p : Page} (hp : okPage p = true) {d : D} {w : List (Nat × List D)} {S : Store} (hd : listOf S d = some (encP p, w)) (c b i L : Nat) (rs : List D) (hL : S[L]? = some (.lst rs)) (hrs : rs.length < 100) (hb : b < i) (hi : i ≤ p.length) (hcl : ∀ j, b ≤ j → j < i → clo p c j = true) (a2 a3 a7 a8 : Option D) :
    (sCons (sExpr (eMt "list" (appendG) (eV 4) (aCons (eMake 12 4 m_Stretch_init (aCons (eV 1) (aCons (eV 5) (aCons (eLc false (iR2 (aCons (eV 5) (aCons (eV 6) (aNil)))) [8] (.one 8) (tYesD) (eOp ixG (eOp ixG (eV 0) (eV 8)) (eV 1))) (aNil))))) (aNil)))) (sAsg (eC .non) (gN 5)))
      [some d, some (.int c), a2, a3, some (.ref L), some (.int b), some (.int i), a7, a8] S = .nx [some d, some (.int c), a2, a3, some (.ref L), some .non, some (.int i), a7, a8] ((S ++ [stOb p ⟨c, b, i⟩]).set L (.lst (rs ++ [.ref S.length]))) := by
  obtain ⟨p1, p2, p3⟩ := okPage_parts hp
  have tm : tyM S (.ref L) = some "list" := by simp [tyM, hL]
  have mb : (-1000000 ≤ (b : Int) ∧ (b : Int) ≤ 1000000) ∧ -1000000 ≤ (i : Int) ∧ (i : Int) ≤ 1000000 := by omega
  have hl : i - b ≤ LIM := le_LIM (by omega)
  have en : ((i : Int) - (b : Int)).toNat = i - b := by omega
  rw [r_sCons, r_sExpr]
  simp only [eMt, r_eV, List.getElem?_cons_succ, List.getElem?_cons_zero, R.bind_ok, tm, if_true, r_aCons, r_aNil, r_eMake, r_eLc, r_iR2, mb, and_self, en, lcS_ok, intsD_len, hl, wipe_cons, wipe_nil, List.set_cons_succ, List.set_cons_zero]
  generalize q : lcGo _ _ _ _ _ _ _ _ = r
  obtain ⟨acc, s, rfl, rfl, rfl⟩ := lc_at q (fun j acc st' => S = st' ∧ acc = ((List.range j).map fun k => cellAt p (b + k) c).map D.str) ⟨rfl, rfl⟩ (fun _ _ _ _ _ => rfl) (fun j x acc st' hj ⟨e1, e2⟩ => by
    subst e1 e2
    have hj' := (List.getElem?_eq_some_iff.mp hj).1
    rw [intsD_len] at hj'
    rw [ints_at _ _ _ hj'] at hj
    cases hj
    obtain ⟨r, hr, hc⟩ := clo_row (hcl (b + j) (by omega) (by omega))
    have ei : atI (encP p) ((b : Int) + (j : Int)) = some (encR r) := by
      rw [show (b : Int) + (j : Int) = ((b + j : Nat) : Int) by omega, atI_nat]; simp [encP, hr]
    have ec : atI (r.map D.str) (c : Int) = some (.str (cellAt p (b + j) c)) := by
      rw [atI_nat]
      simp [cellAt, hr, show c < r.length by omega]
    refine ⟨_, rfl, ?_⟩
    simp [ix_list hd, ei]
    simp [ixG, encR, ec, List.range_succ])
  have ini := Stretch_init_ok S c b ((List.range (i - b)).map fun k => cellAt p (b + k) c)
  have e1 : b + (i - b) = i := by omega
  rw [List.length_map, List.length_range, e1] at ini
  have eo : Ob.ins 12 (stFs ⟨c, b, i⟩ ((List.range (i - b)).map fun k => cellAt p (b + k) c)) = stOb p ⟨c, b, i⟩ := rfl
  rw [eo] at ini
  have hL' : (S ++ [stOb p ⟨c, b, i⟩])[L]? = some (.lst rs) := Stays.app _ _ _ _ hL
  have hrl : rs.length < LIM := lt_LIM (by omega)
  rw [intsD_len]
  simp only [R.bind_ok, r_newF, List.length_cons, List.length_nil, if_true, ini]
  simp [appendG, hL', hrl]
theorem stretches_of_ok {p : Page} (hp : okPage p = true) {d : D} {w : List (Nat × List D)} {st : Store} (hd : listOf st d = some (encP p, w)) (c : Nat) (hc : c < 5) :
    m_stretches_of [d, .int c, .int 0, .int p.length] st = .ok (.ref st.length, st ++ .lst (refs (st.length + 1) (sttsC p c).length) :: (sttsC p c).map (stOb p)) := by
  rw [m_stretches_of, funD, d_stretches_of]
  obtain ⟨p1, p2, p3⟩ := okPage_parts hp
  have m1 : -1000000 ≤ (p.length : Int) + 1 ∧ (p.length : Int) + 1 ≤ 1000000 := by omega
  have e1 : ((p.length : Int) + 1).toNat = p.length + 1 := by omega
  simp [addG, m1, e1]
  generalize q : forGo _ _ _ _ _ _ = r
  obtain ⟨e, s, rfl, Bs, first, a6, a7, a8, rfl, rfl, hI⟩ := for_at q (fun i env st' => ∃ (Bs : List Nat) (first a6 a7 a8 : Option D), st' = st ++ .lst (refs (st.length + 1) Bs.length) :: (Bs.map (sttOf p c)).map (stOb p) ∧
      env = [some d, some (.int c), some (.int 0), some (.int p.length), some (.ref st.length), first, a6, a7, a8] ∧
      ((first = some .non ∧ Bs = begs p c i ∧ (i = 0 ∨ clo p c (i - 1) = false)) ∨ ∃ b : Nat, first = some (.int (b : Int)) ∧ begs p c i = Bs ++ [b] ∧ b < i ∧ ∀ j, b ≤ j → j < i → clo p c j = true))
    ⟨[], _, _, _, _, by simp [refs], rfl, .inl ⟨rfl, rfl, .inl rfl⟩⟩ (fun _ _ _ _ _ => rfl) (fun i x env st' hi ⟨Bs, first, a6, a7, a8, e1, e2, hI⟩ => by
      subst e1 e2
      obtain ⟨hi, rfl⟩ := ints_get hi
      have hd' : listOf (st ++ .lst (refs (st.length + 1) Bs.length) :: (Bs.map (sttOf p c)).map (stOb p)) d = some (encP p, w) := listOf_stays (Stays.app _ _) hd
      simp only [r_gN, sOf_ok, r_sCons, List.set_cons_succ, List.set_cons_zero, r_sAsg]
      rw [st_test hd']
      have hBl : ∀ n, (begs p c n).length ≤ n := fun n => by
        unfold begs
        exact Nat.le_trans (List.length_filter_le _ _) (by simp)
      rcases hI with ⟨rfl, hB, h0⟩ | ⟨b, rfl, hB, hb, hcl⟩
      · cases hc : clo p c i with
        | true =>
          have hi : isB p c i = true := by
            rcases h0 with h0 | h0
            · subst h0; simp [isB, hc]
            · simp [isB, hc, h0]
          simp [isG]
          exact ⟨Bs, ⟨rfl, rfl⟩, i, rfl, by rw [begs_succ, hi, hB]; rfl, by omega, fun j h1 h2 => by rw [show j = i by omega]; exact hc⟩
        | false =>
          have hi : isB p c i = false := by simp [isB, hc]
          simp [isG]
          exact ⟨Bs, ⟨rfl, rfl⟩, by rw [begs_succ, hi, hB]; simp, hc⟩
      · cases hc : clo p c i with
        | true =>
          have hi : isB p c i = false := by
            have := hcl (i - 1) (by omega) (by omega)
            simp [isB, hc, this]
            omega
          simp [isG]
          refine ⟨Bs, ⟨rfl, rfl⟩, b, rfl, by rw [begs_succ, hi, hB]; simp, by omega, fun j h1 h2 => ?_⟩
          by_cases z : j = i
          · rw [z]; exact hc
          · exact hcl j h1 (by omega)
        | false =>
          have hi : isB p c i = false := by simp [isB, hc]
          have hlen := hBl i
          rw [hB] at hlen
          simp at hlen
          have made := st_made (S := st ++ .lst (refs (st.length + 1) Bs.length) :: (Bs.map (sttOf p c)).map (stOb p)) hp hd' c b i st.length (refs (st.length + 1) Bs.length) (by simp) (by simp; omega) hb (by omega) hcl (some (.int 0)) (some (.int p.length)) (some (.bl false)) a8
          have en : endOf p c b = i := endOf_eq (by omega) (by omega) hcl hc
          rw [sOf_ok, then_nx, r_sCons, r_sIf]
          simp only [r_tAndD, r_tNotD, r_tv, r_eV, r_eOp, r_eC, isG, List.getElem?_cons_succ, List.getElem?_cons_zero, R.bind_ok, ifS_ok, r_sNext, then_nx, r_sIf, if_true, Bool.false_eq_true, if_false, Bool.not_false, Bool.not_true]
          rw [made, turn_nx]
          refine ⟨Bs ++ [b], _, _, _, _, ?_, rfl, .inl ⟨rfl, by rw [begs_succ, hi, hB]; simp, .inr (by simpa using hc)⟩⟩
          have eL : (st ++ Ob.lst (refs (st.length + 1) Bs.length) :: List.map (stOb p) (List.map (sttOf p c) Bs)).length = st.length + 1 + Bs.length := by simp; omega
          rw [eL, ← refs_succ, List.append_assoc, List.set_append_right _ _ (Nat.le_refl _)]
          simp [sttOf, en])
  rw [intsD_len] at hI
  have last : begs p c (p.length + 1) = begs p c p.length := by
    rw [begs_succ, show isB p c p.length = false by simp [isB, clo_out (p := p) (c := c) (Nat.le_refl _)]]
    simp
  rcases hI with ⟨_, hB, _⟩ | ⟨b, _, _, hb, hcl⟩
  · rw [last] at hB
    subst hB
    simp [sttsC]
  · have := hcl p.length (by omega) (by omega)
    rw [clo_out (Nat.le_refl _)] at this
    cases this
end Dl
namespace Dl
open PySem L2
/-- d is the stretch s of p in the store -/
def IsSt (p : Page) (st : Store) (d : D) (s : Stt) : Prop := ∃ k : Nat, d = .ref k ∧ st[k]? = some (stOb p s)
theorem isSt_refs (p : Page) : ∀ (ss : List Stt) (k : Nat) (st : Store), (∀ i, i < ss.length → st[k + i]? = (ss.map (stOb p))[i]?) → All2 (IsSt p st) (refs k ss.length) ss
  | [], k, st, _ => trivial
  | s :: ss, k, st, h => by
    have e : refs k (s :: ss).length = .ref k :: refs (k + 1) ss.length := by
      unfold refs
      rw [List.length_cons, List.range_succ_eq_map, List.map_cons, List.map_map]
      congr 1
      refine List.map_congr_left fun a _ => ?_
      show D.ref (k + (a + 1)) = D.ref (k + 1 + a)
      congr 1; omega
    rw [e]
    refine ⟨⟨k, rfl, by have := h 0 (by simp); simpa using this⟩, isSt_refs p ss (k + 1) st fun i hi => ?_⟩
    have := h (i + 1) (by simp; omega)
    rw [show k + 1 + i = k + (i + 1) by omega, this]
    simp
theorem IsSt.stays {p : Page} {st st' : Store} (h : ∀ (k : Nat) (fs : List (Str × D)), st[k]? = some (.ins 12 fs) → st'[k]? = some (.ins 12 fs)) {d : D} {s : Stt} (x : IsSt p st d s) : IsSt p st' d s :=
  let ⟨k, a, b⟩ := x; ⟨k, a, h k _ b⟩
def m_all_stretches : FV := funD 3 (d_all_stretches m_stretches_of)
theorem sttsC_le (p : Page) (c : Nat) : (sttsC p c).length ≤ p.length := by
  unfold sttsC begs
  rw [List.length_map]
  exact Nat.le_trans (List.length_filter_le _ _) (by simp)
theorem flat_le (p : Page) : ∀ i, ((List.range i).flatMap (sttsC p)).length ≤ p.length * i
  | 0 => by simp
  | i + 1 => by
    have h1 := flat_le p i
    have h2 := sttsC_le p i
    rw [List.range_succ, List.flatMap_append, List.length_append, Nat.mul_succ]
    simp only [List.flatMap_cons, List.flatMap_nil, List.append_nil]
    omega
theorem all_stretches_ok {p : Page} (hp : okPage p = true) {d : D} {w : List (Nat × List D)} {st : Store} (hd : listOf st d = some (encP p, w)) :
    ∃ R more, m_all_stretches [d] st = .ok (.ref st.length, st ++ .lst R :: more) ∧ All2 (IsSt p (st ++ .lst R :: more)) R (stts p) := by
  rw [m_all_stretches, funD, d_all_stretches]
  obtain ⟨p1, p2, p3⟩ := okPage_parts hp
  simp [subG, show (5 : Int).toNat = 5 from rfl]
  generalize q : forGo _ _ _ _ _ _ = r
  obtain ⟨e, s, rfl, R, more, a2, rfl, rfl, hR⟩ := for_at q (fun i env st' => ∃ R more a2, st' = st ++ .lst R :: more ∧ env = [some d, some (.ref st.length), a2] ∧ All2 (IsSt p st') R ((List.range i).flatMap (sttsC p)))
    ⟨[], [], _, rfl, rfl, trivial⟩ (fun _ _ _ _ _ => rfl) (fun i x env st' hi ⟨R, more, a2, e1, e2, hR⟩ => by
      subst e1 e2
      obtain ⟨hi, rfl⟩ := ints_get hi
      have hd' : listOf (st ++ .lst R :: more) d = some (encP p, w) := listOf_stays (Stays.app _ _) hd
      have so := stretches_of_ok hp hd' i (by omega)
      have ln := len_list hd'
      simp only [encP_len] at ln
      have Rl : R.length ≤ 30 * i := by
        rw [hR.len]
        exact Nat.le_trans (flat_le p i) (Nat.mul_le_mul_right _ p2)
      have lm : R.length + (sttsC p i).length ≤ LIM := le_LIM (by have := sttsC_le p i; omega)
      have t1 : (st ++ .lst R :: more ++ .lst (refs ((st ++ .lst R :: more).length + 1) (sttsC p i).length) :: (sttsC p i).map (stOb p))[st.length]? = some (.lst R) := by simp
      have t2 : lstOf (st ++ .lst R :: more ++ .lst (refs ((st ++ .lst R :: more).length + 1) (sttsC p i).length) :: (sttsC p i).map (stOb p)) (.ref (st ++ .lst R :: more).length) = some (refs ((st ++ .lst R :: more).length + 1) (sttsC p i).length) := by simp [lstOf]
      have t3 : (st ++ .lst R :: more ++ .lst (refs ((st ++ .lst R :: more).length + 1) (sttsC p i).length) :: (sttsC p i).map (stOb p)).set st.length (.lst (R ++ refs ((st ++ .lst R :: more).length + 1) (sttsC p i).length)) = st ++ .lst (R ++ refs ((st ++ .lst R :: more).length + 1) (sttsC p i).length) :: (more ++ .lst (refs ((st ++ .lst R :: more).length + 1) (sttsC p i).length) :: (sttsC p i).map (stOb p)) := by simp
      have tm : tyM (st ++ .lst R :: more) (.ref st.length) = some "list" := by simp [tyM]
      have ex : extendG (st ++ .lst R :: more ++ .lst (refs ((st ++ .lst R :: more).length + 1) (sttsC p i).length) :: (sttsC p i).map (stOb p)) (.ref st.length) [.ref (st ++ .lst R :: more).length] = .ok (.non, st ++ .lst (R ++ refs ((st ++ .lst R :: more).length + 1) (sttsC p i).length) :: (more ++ .lst (refs ((st ++ .lst R :: more).length + 1) (sttsC p i).length) :: (sttsC p i).map (stOb p))) := by
        unfold extendG
        simp only [t1, t2, refs_len, lm, if_true, t3]
      have nx : All2 (IsSt p (st ++ .lst (R ++ refs ((st ++ .lst R :: more).length + 1) (sttsC p i).length) :: (more ++ .lst (refs ((st ++ .lst R :: more).length + 1) (sttsC p i).length) :: (sttsC p i).map (stOb p)))) (R ++ refs ((st ++ .lst R :: more).length + 1) (sttsC p i).length) ((List.range (i + 1)).flatMap (sttsC p)) := by
        have h1 : All2 (IsSt p (st ++ .lst (R ++ refs ((st ++ .lst R :: more).length + 1) (sttsC p i).length) :: (more ++ .lst (refs ((st ++ .lst R :: more).length + 1) (sttsC p i).length) :: (sttsC p i).map (stOb p)))) R ((List.range i).flatMap (sttsC p)) := by
          refine hR.imp fun a b x => x.stays fun k fs e => ?_
          rw [← t3, List.getElem?_set_ne (by intro z; rw [← z] at e; simp at e)]
          rw [List.getElem?_append_left (List.getElem?_eq_some_iff.mp e).1]; exact e
        have h2 : All2 (IsSt p (st ++ .lst (R ++ refs ((st ++ .lst R :: more).length + 1) (sttsC p i).length) :: (more ++ .lst (refs ((st ++ .lst R :: more).length + 1) (sttsC p i).length) :: (sttsC p i).map (stOb p)))) (refs ((st ++ .lst R :: more).length + 1) (sttsC p i).length) (sttsC p i) := by
          refine isSt_refs p _ _ _ fun j hj => ?_
          rw [← t3, List.getElem?_set_ne (by simp; omega), List.getElem?_append_right (by omega), show (st ++ .lst R :: more).length + 1 + j - (st ++ .lst R :: more).length = j + 1 by omega]
          rfl
        rw [List.range_succ, List.flatMap_append]
        simp only [List.flatMap_cons, List.flatMap_nil, List.append_nil]
        exact All2.app h1 h2
      generalize st ++ .lst R :: more = S at so ln tm ex nx
      simp [so, ln, tm, ex]
      exact nx)
  rw [intsD_len] at hR
  simp
  exact ⟨R, more, ⟨rfl, rfl⟩, hR⟩
end Dl
namespace Dl
open PySem L2
/-- the longest cell -/
def most (ss : List (List Nat)) : Int := maxL (ss.map fun s => (s.length : Int))
def wid (y : Sty) (ss : List (List Nat)) : Int := max y.l (most ss + y.g)
def right (ss : List (List Nat)) : Bool := decide (ss.filter (fun s => decide (s ≠ [])) ≠ []) && (ss.filter fun s => decide (s ≠ [])).all figs
/-- a stretch's object in the store -/
def StAt (p : Page) (st : Store) (k : Nat) (s : Stt) : Prop := st[k]? = some (stOb p s)
theorem fld_cells {p : Page} {st : Store} {k : Nat} {s : Stt} (h : StAt p st k s) (env : Env) (i : Nat) (hi : env[i]? = some (some (.ref k))) : eFld 12 "cells" (eV i) env st = .ok (.lst ((cellsOf p s).map .str), st) := by
  unfold StAt stOb at h
  simp only [eFld, r_eV, hi, R.bind_ok, h, if_true, st_cells]
theorem fld_begin {p : Page} {st : Store} {k : Nat} {s : Stt} (h : StAt p st k s) (env : Env) (i : Nat) (hi : env[i]? = some (some (.ref k))) : eFld 12 "begin" (eV i) env st = .ok (.int s.b, st) := by
  unfold StAt stOb at h
  simp only [eFld, r_eV, hi, R.bind_ok, h, if_true, st_beg]
theorem fld_end {p : Page} {st : Store} {k : Nat} {s : Stt} (h : StAt p st k s) (env : Env) (i : Nat) (hi : env[i]? = some (some (.ref k))) : eFld 12 "end" (eV i) env st = .ok (.int s.e, st) := by
  unfold StAt stOb at h
  simp only [eFld, r_eV, hi, R.bind_ok, h, if_true, st_end]
theorem fld_column {p : Page} {st : Store} {k : Nat} {s : Stt} (h : StAt p st k s) (env : Env) (i : Nat) (hi : env[i]? = some (some (.ref k))) : eFld 12 "column" (eV i) env st = .ok (.int s.c, st) := by
  unfold StAt stOb at h
  simp only [eFld, r_eV, hi, R.bind_ok, h, if_true, st_col]
theorem cells_fit {p : Page} {s : Stt} (hp : okPage p = true) (hs : s.Of p) : (cellsOf p s).length ≤ 30 ∧ cellsOf p s ≠ [] ∧ ∀ c ∈ cellsOf p s, okCell c = true := by
  obtain ⟨p1, p2, p3⟩ := okPage_parts hp
  have h1 := hs.lt
  have h2 := hs.le
  refine ⟨by rw [cellsOf_len]; omega, fun z => by have := cellsOf_len p s; rw [z] at this; simp at this; omega, fun c hc => ?_⟩
  obtain ⟨k, hk, rfl⟩ := List.mem_map.mp hc
  rw [List.mem_range] at hk
  obtain ⟨r, hr, hl⟩ := clo_row (hs.clo (s.b + k) (by omega) (by omega))
  have hrow := okRow_parts (p3 r (List.mem_of_getElem? hr))
  have e : cellAt p (s.b + k) s.c = r[s.c] := by
    simp [cellAt, hr, show s.c < r.length by omega]
  rw [e]
  exact hrow.2.2 _ (by simp)
/-- the lengths of the cells, by a comprehension -/
theorem lens_ok (ss : List (List Nat)) (env : Env) (j : Nat) (hj : j < env.length) (st : Store) : lcGo [] (.one j) tYesD (eB lenG (aCons (eV j) (aNil))) env (ss.map D.str) [] st = .ok ((ss.map fun s => (s.length : Int)).map D.int, st) := by
  rw [lc_map rfl (fun d => match d with | .str s => .int s.length | _ => .non) _ fun d hd => ?_]
  · rw [List.map_map, List.map_map]; rfl
  · obtain ⟨s, _, rfl⟩ := List.mem_map.mp hd
    exact ⟨_, rfl, by simp [hj, lenG]⟩
@[simp] theorem maxG2 (a b : Int) (st : Store) : maxG st [.int a, .int b] = .ok (.int (max a b), st) := (rfl)
@[simp] theorem minG2 (a b : Int) (st : Store) : minG st [.int a, .int b] = .ok (.int (min a b), st) := (rfl)
theorem most_ok (ss : List (List Nat)) (h : ss ≠ []) (st : Store) : maxG st [.lst (ss.map (D.int ∘ fun s => (s.length : Int)))] = .ok (.int (most ss), st) := by
  rw [← List.map_map]
  have ne : ss.map (fun s => (s.length : Int)) ≠ [] := by simpa using h
  unfold maxG
  simp only [lstOf, Option.bind_some, intsOf_map, if_pos ne, most]
def m_Stretch_width : FV := funD 3 d_Stretch_width
theorem width_ok {p : Page} (hp : okPage p = true) {s : Stt} (hs : s.Of p) {st : Store} {k : Nat} (h : StAt p st k s) (y : Sty) : m_Stretch_width [.ref k, y.enc] st = .ok (.int (wid y (cellsOf p s)), st) := by
  rw [m_Stretch_width, funD, d_Stretch_width]
  obtain ⟨c1, c2, c3⟩ := cells_fit hp hs
  have f := fld_cells h [some (.ref k), some (.tup [.int y.g, .int y.l]), none] 0 rfl
  have hl : (cellsOf p s).length ≤ LIM := le_LIM (by omega)
  have ln := lens_ok (cellsOf p s) [some (.ref k), some (.tup [.int y.g, .int y.l]), none] 2 (by simp) st
  have ne : (cellsOf p s).map (fun s => (s.length : Int)) ≠ [] := by simpa using c2
  simp [f, itemsOf, hl, ln, Sty.enc, ixG, -r_eFld, most_ok _ c2, addG, wid]
def m_Stretch_is_right : FV := funD 3 (d_Stretch_is_right m_is_figures)
theorem is_right_ok {p : Page} (hp : okPage p = true) {s : Stt} (hs : s.Of p) {st : Store} {k : Nat} (h : StAt p st k s) : m_Stretch_is_right [.ref k] st = .ok (.bl (right (cellsOf p s)), st) := by
  rw [m_Stretch_is_right, funD, d_Stretch_is_right]
  obtain ⟨c1, c2, c3⟩ := cells_fit hp hs
  have f := fld_cells h [some (.ref k), none, none] 0 rfl
  have hl : (cellsOf p s).length ≤ LIM := le_LIM (by omega)
  generalize cellsOf p s = ss at f hl c3 ⊢
  have l1 : lcGo [] (.one 2) (tv (eOp (eqG true) (eV 2) (eC (.str [])))) (eV 2) [some (.ref k), none, none] (ss.map D.str) [] st = .ok ((ss.filter fun s => decide (s ≠ [])).map D.str, st) := by
    rw [lc_keep rfl (fun d => match d with | .str c => decide (c ≠ []) | _ => true) _ (fun d hd => ?_) (by simp)]
    · rw [List.filter_map]; rfl
    · obtain ⟨c, _, rfl⟩ := List.mem_map.mp hd
      simp
  have hl2 : (ss.filter fun s => decide (s ≠ [])).length ≤ LIM := Nat.le_trans (List.length_filter_le _ _) hl
  have l2 : lcGo [] (.one 2) (tNotD (tv (eCall 1 m_is_figures (aCons (eV 2) (aNil))))) (eV 2) [some (.ref k), some (.lst ((ss.filter fun s => decide (s ≠ [])).map D.str)), none] ((ss.filter fun s => decide (s ≠ [])).map D.str) [] st = .ok (((ss.filter fun s => decide (s ≠ [])).filter fun s => !figs s).map D.str, st) := by
    rw [lc_keep rfl (fun d => match d with | .str c => !figs c | _ => true) _ (fun d hd => ?_) (by simp)]
    · rw [List.filter_map]; rfl
    · obtain ⟨c, hc, rfl⟩ := List.mem_map.mp hd
      have := (okCell_parts (c3 c (List.mem_filter.mp hc).1)).1
      simp [is_figures_str c (by omega)]
  unfold right
  generalize (ss.filter fun s => decide (s ≠ [])) = full at l1 l2 hl2 ⊢
  have e1 : eqG true st (.lst (full.map D.str)) (.lst []) = .ok (.bl (decide (full ≠ [])), st) := by
    rw [eqG_pl (by simp) rfl (by have := dps_strs full; simp; omega) (by simp)]
    simp
  have e2 : ∀ l : List (List Nat), eqG false st (.lst (l.map D.str)) (.lst []) = .ok (.bl (decide (l = [])), st) := fun l => by
    rw [eq_nilD (pls_strs _) (Nat.le_trans (dps_strs _) (by decide))]
    simp
  by_cases hf : full = []
  · subst hf
    have e0 : eqG true st (.lst []) (.lst []) = .ok (.bl false, st) := by simpa using e1
    simp [f, itemsOf, hl, l1, -r_eFld, e0]
  · simp [f, itemsOf, hl, l1, -r_eFld, e1, hf, hl2, l2, e2]
    rw [Bool.eq_iff_iff]
    simp [List.filter_eq_nil_iff]
end Dl
namespace Dl
open PySem L2
theorem turn_eq {r : SR} {e : Env} {s : Store} {J : Env → Store → Prop} (h : r = .nx e s) (k : J e s) : r.turn J := by rw [h]; exact k
end Dl
namespace Dl
open PySem L2
def begOf (p : Page) (c : Nat) : Nat → Nat
  | 0 => 0
  | k + 1 => if clo p c k = true then begOf p c k else k + 1
theorem begOf_le (p : Page) (c : Nat) : ∀ k, begOf p c k ≤ k
  | 0 => Nat.le_refl _
  | k + 1 => by
    unfold begOf
    split
    · exact Nat.le_succ_of_le (begOf_le p c k)
    · exact Nat.le_refl _
theorem begOf_self {p : Page} {c k : Nat} : begOf p c k = k ↔ (k = 0 ∨ clo p c (k - 1) = false) := by
  cases k with
  | zero => simp [begOf]
  | succ k =>
    unfold begOf
    cases h : clo p c k with
    | true =>
      have := begOf_le p c k
      simp [h]
      omega
    | false => simp [h]
@[simp] theorem lenR (r : Row) (st : Store) : lenG st [encR r] = .ok (.int r.length, st) := by simp [lenG, encR]
@[simp] theorem sty0 (y : Sty) (st : Store) : ixG st y.enc (.int 0) = .ok (.int y.g, st) := by simp [Sty.enc, ixG]
@[simp] theorem sty1 (y : Sty) (st : Store) : ixG st y.enc (.int 1) = .ok (.int y.l, st) := by simp [Sty.enc, ixG]
@[simp] theorem lenS (s : List Nat) (st : Store) : lenG st [.str s] = .ok (.int s.length, st) := (rfl)
theorem run_all {p : Page} {c k : Nat} (hk : clo p c k = true) : ∀ j, begOf p c k ≤ j → j < endOf p c (k + 1) → clo p c j = true := by
  have hlt : k < p.length := by
    obtain ⟨r, hr, _⟩ := clo_row hk
    exact (List.getElem?_eq_some_iff.mp hr).1
  have eo := endOf_ok (p := p) (c := c) (k := k + 1) (by omega)
  have low : ∀ n, n ≤ k → ∀ j, begOf p c n ≤ j → j < n → clo p c j = true := by
    intro n
    induction n with
    | zero => intro _ j _ h; omega
    | succ n ih =>
      intro hn j h1 h2
      unfold begOf at h1
      cases hc : clo p c n with
      | true =>
        rw [if_pos hc] at h1
        by_cases z : j = n
        · rw [z]; exact hc
        · exact ih (by omega) j h1 (by omega)
      | false =>
        rw [if_neg (by simp [hc])] at h1
        omega
  intro j h1 h2
  by_cases z : j < k
  · exact low k (Nat.le_refl _) j h1 z
  · by_cases z2 : j = k
    · rw [z2]; exact hk
    · exact eo.2.2.1 j (by omega) h2
end Dl
namespace Dl
open PySem L2
@[simp] theorem ix_tup (ds : List D) (i : Int) (st : Store) : ixG st (.tup ds) (.int i) = R.of ((atI ds i).map fun x => (x, st)) := (rfl)
@[simp] theorem ix_lst (ds : List D) (i : Int) (st : Store) : ixG st (.lst ds) (.int i) = R.of ((atI ds i).map fun x => (x, st)) := (rfl)
@[simp] theorem ix_str (s : List Nat) (i : Int) (st : Store) : ixG st (.str s) (.int i) = R.of ((atI s i).map fun c => (.str [c], st)) := (rfl)
end Dl
namespace Dl
open PySem L2
theorem stts_le {p : Page} (hp : okPage p = true) : (stts p).length ≤ 150 := Nat.le_trans (flat_le p 5) (by have := (okPage_parts hp).2.1; omega)
end Dl
namespace Dl
open PySem L2
/-- stops_by: 10 slots, 3 parameters -/
def d_stops_by (m_Stretch_width : FV) : SV := sCons (sAsg (eDictT) (gN 3)) (sCons (sFor (iSeq (eV 2)) (gN 4) (sFor (iR2 (aCons (eFld 12 "begin" (eV 4)) (aCons (eFld 12 "end" (eV 4)) (aNil)))) (gN 5) (sAsg (eMeth 12 "width" 2 m_Stretch_width (eV 4) (aCons (eV 1) (aNil))) (gSb (eV 3) (eTup (aCons (eV 5) (aCons (eFld 12 "column" (eV 4)) (aNil)))) dsetG)))) (sCons (sAsg (eLst true (aNil)) (gN 6)) (sCons (sFor (iEn (aCons (eV 0) (aNil))) (gTp 2 (gsCons (gN 5) (gsCons (gN 7) (gsNil)))) (sCons (sAsg (eLst true (aCons (eC (.int 0)) (aNil))) (gN 8)) (sCons (sFor (iR1 (aCons (eOp subG (eB lenG (aCons (eV 7) (aNil))) (eC (.int 1))) (aNil))) (gN 9) (sExpr (eMt "list" (appendG) (eV 8) (aCons (eOp (addG false) (eOp ixG (eV 8) (eNeg (eC (.int 1)))) (eOp dgetG (eV 3) (eTup (aCons (eV 5) (aCons (eV 9) (aNil)))))) (aNil))))) (sExpr (eMt "list" (appendG) (eV 6) (aCons (eV 8) (aNil))))))) (sRet (eV 6)))))
/-- begins_by: 7 slots, 3 parameters -/
def d_begins_by (m_stops_by : FV) (m_Stretch_is_right : FV) (m_Stretch_width : FV) : SV := sCons (sAsg (eCall 3 m_stops_by (aCons (eV 0) (aCons (eV 1) (aCons (eV 2) (aNil))))) (gN 3)) (sCons (sFor (iSeq (eV 2)) (gN 4) (sIf (tv (eMeth 12 "is_right" 1 m_Stretch_is_right (eV 4) aNil)) (sFor (iR1 (aCons (eB lenG (aCons (eFld 12 "cells" (eV 4)) (aNil))) (aNil))) (gN 5) (sCons (sAsg (eOp ixG (eV 3) (eOp (addG false) (eFld 12 "begin" (eV 4)) (eV 5))) (gN 6)) (sAsg (eOp subG (eOp subG (eOp (addG false) (eOp ixG (eV 6) (eFld 12 "column" (eV 4))) (eMeth 12 "width" 2 m_Stretch_width (eV 4) (aCons (eV 1) (aNil)))) (eOp ixG (eV 1) (eC (.int 0)))) (eB lenG (aCons (eOp ixG (eFld 12 "cells" (eV 4)) (eV 5)) (aNil)))) (gSb (eV 6) (eFld 12 "column" (eV 4)) setLG)))) (sNext))) (sRet (eV 3)))
/-- stops: 2 slots, 2 parameters -/
def d_stops (m_need_page : FV) (m_need_style : FV) (m_stops_by : FV) (m_all_stretches : FV) : SV := sCons (sExpr (eCall 1 m_need_page (aCons (eV 0) (aNil)))) (sCons (sExpr (eCall 1 m_need_style (aCons (eV 1) (aNil)))) (sRet (eCall 3 m_stops_by (aCons (eV 0) (aCons (eV 1) (aCons (eCall 1 m_all_stretches (aCons (eV 0) (aNil))) (aNil)))))))
/-- laid: 2 slots, 2 parameters -/
def d_laid (m_need_page : FV) (m_need_style : FV) (m_begins_by : FV) (m_all_stretches : FV) : SV := sCons (sExpr (eCall 1 m_need_page (aCons (eV 0) (aNil)))) (sCons (sExpr (eCall 1 m_need_style (aCons (eV 1) (aNil)))) (sRet (eCall 3 m_begins_by (aCons (eV 0) (aCons (eV 1) (aCons (eCall 1 m_all_stretches (aCons (eV 0) (aNil))) (aNil)))))))
end Dl
namespace Dl
open PySem L2
theorem begOf_eq {p : Page} {c b : Nat} (hb : isB p c b = true) : ∀ k, b ≤ k → (∀ j, b ≤ j → j ≤ k → clo p c j = true) → begOf p c k = b
  | 0, h, _ => by
    have : b = 0 := by omega
    subst this; rfl
  | k + 1, h, hc => by
    by_cases z : b = k + 1
    · subst z
      rw [begOf_self]
      simp only [isB, Bool.and_eq_true, Bool.or_eq_true, Bool.not_eq_true', beq_iff_eq] at hb
      exact hb.2
    · unfold begOf
      rw [if_pos (hc k (by omega) (by omega))]
      exact begOf_eq hb k (by omega) fun j h1 h2 => hc j h1 (by omega)
def sttAt (p : Page) (k c : Nat) : Stt := sttOf p c (begOf p c k)
/-- the cell k, c lies in the stretch s -/
def Covers (s : Stt) (k c : Nat) : Prop := s.c = c ∧ s.b ≤ k ∧ k < s.e
instance (s : Stt) (k c : Nat) : Decidable (Covers s k c) := by unfold Covers; exact inferInstance
theorem stts_form {p : Page} {s : Stt} (h : s ∈ stts p) : s = sttOf p s.c s.b := by
  unfold stts at h
  rw [List.mem_flatMap] at h
  obtain ⟨c, hc, h⟩ := h
  obtain ⟨b, hb, rfl⟩ := List.mem_map.mp h
  rfl
theorem covers_at {p : Page} {s : Stt} (h : s ∈ stts p) {k c : Nat} (hk : Covers s k c) : s = sttAt p k c := by
  have so := stts_mem h
  obtain ⟨rfl, h1, h2⟩ := hk
  unfold sttAt
  rw [begOf_eq so.beg k h1 fun j a b => so.clo j a (by omega)]
  exact stts_form h
theorem begOf_isB {p : Page} {c : Nat} : ∀ k, clo p c k = true → isB p c (begOf p c k) = true
  | 0, h => by
    show isB p c 0 = true
    simp [isB, h]
  | k + 1, h => by
    unfold begOf
    by_cases hc : clo p c k = true
    · rw [if_pos hc]; exact begOf_isB k hc
    · rw [if_neg hc]
      simp [isB, h, hc]
theorem endOf_run {p : Page} {c k : Nat} (hk : clo p c k = true) : endOf p c (begOf p c k) = endOf p c (k + 1) := by
  have hlt : k < p.length := by
    obtain ⟨r, hr, _⟩ := clo_row hk
    exact (List.getElem?_eq_some_iff.mp hr).1
  have eo := endOf_ok (p := p) (c := c) (k := k + 1) (by omega)
  have bl := begOf_le p c k
  exact endOf_eq (by omega) eo.2.1 (run_all hk) eo.2.2.2
theorem sttAt_mem {p : Page} {k c : Nat} (hc : c < 5) (hk : clo p c k = true) : sttAt p k c ∈ stts p ∧ Covers (sttAt p k c) k c := by
  have hlt : k < p.length := by
    obtain ⟨r, hr, _⟩ := clo_row hk
    exact (List.getElem?_eq_some_iff.mp hr).1
  have eo := endOf_ok (p := p) (c := c) (k := k + 1) (by omega)
  have bl := begOf_le p c k
  refine ⟨?_, rfl, bl, ?_⟩
  · unfold stts
    rw [List.mem_flatMap]
    refine ⟨c, List.mem_range.mpr hc, List.mem_map.mpr ⟨begOf p c k, ?_, rfl⟩⟩
    unfold begs
    rw [List.mem_filter, List.mem_range]
    exact ⟨by omega, begOf_isB k hk⟩
  · show k < endOf p c (begOf p c k)
    rw [endOf_run hk]; omega
def wAt (p : Page) (y : Sty) (k c : Nat) : Int := wid y (cellsOf p (sttAt p k c))
def sumW (p : Page) (y : Sty) (k : Nat) : Nat → Int
  | 0 => 0
  | c + 1 => sumW p y k c + wAt p y k c
def leftsN (p : Page) (y : Sty) (k n : Nat) : List Int := (List.range n).map (sumW p y k)
theorem leftsN_succ (p : Page) (y : Sty) (k n : Nat) : leftsN p y k (n + 1) = leftsN p y k n ++ [sumW p y k n] := by
  unfold leftsN
  rw [List.range_succ, List.map_append]; rfl
@[simp] theorem leftsN_len (p : Page) (y : Sty) (k n : Nat) : (leftsN p y k n).length = n := by simp [leftsN]
def cellsIn (p : Page) (k : Nat) : Nat := (p.getD k []).length
def rightAt (p : Page) (k c : Nat) : Bool := clo p c k && right (cellsOf p (sttAt p k c))
def bAt (p : Page) (y : Sty) (k c : Nat) : Int := if rightAt p k c = true then sumW p y k (c + 1) - y.g - (cellAt p k c).length else sumW p y k c
def rowI (p : Page) (f : Nat → Nat → Int) (k : Nat) : List D := ((List.range (cellsIn p k)).map (f k)).map .int
def gridS (p : Page) (f : Nat → Nat → Int) : Store := (List.range p.length).map fun k => .lst (rowI p f k)
@[simp] theorem rowI_len (p : Page) (f : Nat → Nat → Int) (k : Nat) : (rowI p f k).length = cellsIn p k := by simp [rowI]
@[simp] theorem gridS_len (p : Page) (f : Nat → Nat → Int) : (gridS p f).length = p.length := by simp [gridS]
theorem rowI_at {p : Page} (f : Nat → Nat → Int) {k c : Nat} (h : c < cellsIn p k) : (rowI p f k)[c]? = some (.int (f k c)) := by simp [rowI, h]
theorem gridS_at {p : Page} (f : Nat → Nat → Int) {k : Nat} (h : k < p.length) : (gridS p f)[k]? = some (.lst (rowI p f k)) := by simp [gridS, h]
theorem rowI_congr {p : Page} {f g : Nat → Nat → Int} {k : Nat} (h : ∀ c, c < cellsIn p k → f k c = g k c) : rowI p f k = rowI p g k := by
  unfold rowI
  refine congrArg (List.map D.int) (List.map_congr_left fun c hc => h c ?_)
  exact List.mem_range.mp hc
theorem gridS_congr {p : Page} {f g : Nat → Nat → Int} (h : ∀ k c, k < p.length → c < cellsIn p k → f k c = g k c) : gridS p f = gridS p g := by
  unfold gridS
  refine List.map_congr_left fun k hk => ?_
  rw [rowI_congr fun c hc => h k c (List.mem_range.mp hk) hc]
theorem gridS_set {p : Page} (f : Nat → Nat → Int) {k c : Nat} (hk : k < p.length) (hc : c < cellsIn p k) (v : Int) :
    (gridS p f).set k (.lst ((rowI p f k).set c (.int v))) = gridS p fun k' c' => if k' = k ∧ c' = c then v else f k' c' := by
  refine List.ext_getElem? fun j => ?_
  by_cases hj : j < p.length
  · rw [gridS_at _ hj]
    by_cases z : k = j
    · subst z
      rw [List.getElem?_set_self (by simpa using hk)]
      refine congrArg (fun l => some (Ob.lst l)) (List.ext_getElem? fun i => ?_)
      by_cases hi : i < cellsIn p k
      · rw [rowI_at _ hi]
        by_cases q : c = i
        · subst q
          rw [List.getElem?_set_self (by simpa using hc)]
          simp
        · rw [List.getElem?_set_ne q, rowI_at _ hi]
          simp [Ne.symm q]
      · rw [List.getElem?_eq_none (by simp; omega), List.getElem?_eq_none (by simp; omega)]
    · rw [List.getElem?_set_ne z, gridS_at _ hj, rowI_congr fun c' _ => ?_]
      simp [Ne.symm z]
  · rw [List.getElem?_eq_none (by simp; omega), List.getElem?_eq_none (by simp; omega)]
theorem cellsIn_row {p : Page} {k : Nat} {r : Row} (h : p[k]? = some r) : cellsIn p k = r.length := by
  unfold cellsIn
  rw [List.getD_eq_getElem?_getD, h]; rfl
theorem cellsIn_le {p : Page} (hp : okPage p = true) {k : Nat} (hk : k < p.length) : 1 ≤ cellsIn p k ∧ cellsIn p k ≤ 6 := by
  obtain ⟨p1, p2, p3⟩ := okPage_parts hp
  have hr : p[k]? = some p[k] := by simp [hk]
  rw [cellsIn_row hr]
  obtain ⟨r1, r2, r3⟩ := okRow_parts (p3 _ (List.mem_of_getElem? hr))
  exact ⟨r1, r2⟩
theorem clo_cells {p : Page} {k c : Nat} (hk : k < p.length) : clo p c k = decide (c + 1 < cellsIn p k) := by
  have hr : p[k]? = some p[k] := by simp [hk]
  rw [clo_at hr, cellsIn_row hr]
end Dl
namespace Dl
open PySem L2
theorem ints_getL {lo : Int} {n j : Nat} {x : D} (h : (intsD lo n)[j]? = some x) : j < n ∧ x = .int (lo + (j : Int)) := by
  have hl := (List.getElem?_eq_some_iff.mp h).1
  rw [intsD_len] at hl
  rw [ints_at lo n j hl] at h
  cases h
  exact ⟨hl, rfl⟩
def m_stops_by : FV := funD 10 (d_stops_by m_Stretch_width)
def kkc (k c : Nat) : List L2.Key := [Sum.inl (k : Int), Sum.inl (c : Int)]
theorem kkc_inj {k c k' c' : Nat} : kkc k c = kkc k' c' ↔ k = k' ∧ c = c' := by
  unfold kkc
  simp only [List.cons.injEq, Sum.inl.injEq, and_true]
  omega
/-- what the widths tell -/
def Told (p : Page) (y : Sty) (kvs : List (List L2.Key × D)) (k c : Nat) : Prop := valK kvs (kkc k c) = some (.int (wAt p y k c))
theorem told_put {p : Page} {y : Sty} {kvs : List (List L2.Key × D)} {k c k' c' : Nat} (h : Told p y kvs k c ∨ (k = k' ∧ c = c')) : Told p y (putKD kvs (kkc k' c') (.int (wAt p y k' c'))) k c := by
  unfold Told
  rw [valK_put]
  by_cases z : kkc k c = kkc k' c'
  · rw [if_pos z]
    obtain ⟨rfl, rfl⟩ := kkc_inj.mp z
    rfl
  · rw [if_neg z]
    rcases h with h | h
    · exact h
    · exact absurd (kkc_inj.mpr h) z
theorem stAt_app {p : Page} {st more : Store} {k : Nat} {s : Stt} (h : StAt p st k s) : StAt p (st ++ more) k s := by
  unfold StAt at h ⊢
  rw [List.getElem?_append_left (List.getElem?_eq_some_iff.mp h).1]; exact h
theorem get_app {st more : Store} {n : Nat} {o : Ob} (h : st[n]? = some o) : (st ++ more)[n]? = some o := by
  rw [List.getElem?_append_left (List.getElem?_eq_some_iff.mp h).1]; exact h
theorem stops_by_ok {p : Page} (hp : okPage p = true) (y : Sty) {d : D} {w : List (Nat × List D)} {st : Store} (hd : listOf st d = some (encP p, w)) {n : Nat} {RR : List D} (hn : st[n]? = some (.lst RR)) (hR : All2 (IsSt p st) RR (stts p)) :
    ∃ kvs, m_stops_by [d, y.enc, .ref n] st = .ok (.ref (st.length + 1), st ++ .dT kvs :: .lst (refs (st.length + 2) p.length) :: gridS p (sumW p y)) := by
  rw [m_stops_by, funD, d_stops_by]
  obtain ⟨p1, p2, p3⟩ := okPage_parts hp
  have hit : itemsOf (st ++ [Ob.dT []]) (.ref n) = some (RR, [(n, RR)]) := by simp only [itemsOf, get_app hn]
  simp [hit]
  generalize q : forGo _ _ _ _ _ _ = r
  obtain ⟨e, s, rfl, kvs, a4, a5, rfl, rfl, hkl, hkv⟩ := for_at q (fun i env st' => ∃ kvs a4 a5, st' = st ++ [Ob.dT kvs] ∧ env = [some d, some y.enc, some (.ref n), some (.ref st.length), a4, a5, none, none, none, none] ∧ kvs.length ≤ 30 * i ∧ ∀ s ∈ (stts p).take i, ∀ k, s.b ≤ k → k < s.e → Told p y kvs k s.c)
    ⟨[], none, none, rfl, rfl, by simp, by simp⟩ (fun i env st' _ ⟨kvs, a4, a5, e1, e2, e3⟩ => by subst e1; exact still_one (get_app hn)) (fun i x env st' hi ⟨kvs, a4, a5, e1, e2, hl, hk⟩ => by
      obtain ⟨s, hs, kk, rfl, hkk⟩ := hR.get hi
      have so := stts_mem (List.mem_of_getElem? hs)
      have slt := so.lt
      have sle := so.le
      have sc4 := so.c4
      have sa : ∀ more, StAt p (st ++ more) kk s := fun more => stAt_app hkk
      have il : i < 150 := by have := (List.getElem?_eq_some_iff.mp hs).1; have := stts_le hp; omega
      subst e2
      have f2 := fld_begin (sa [Ob.dT kvs]) [some d, some y.enc, some (.ref n), some (.ref st.length), some (.ref kk), a5, none, none, none, none] 4 rfl
      have f3 := fld_end (sa [Ob.dT kvs]) [some d, some y.enc, some (.ref n), some (.ref st.length), some (.ref kk), a5, none, none, none, none] 4 rfl
      rw [← e1] at f2 f3
      have mb : (-1000000 ≤ (s.b : Int) ∧ (s.b : Int) ≤ 1000000) ∧ -1000000 ≤ (s.e : Int) ∧ (s.e : Int) ≤ 1000000 := by omega
      have en2 : ((s.e : Int) - (s.b : Int)).toNat = s.e - s.b := by omega
      have hle : s.e - s.b ≤ LIM := le_LIM (by omega)
      simp [f2, f3, -r_eFld, mb, en2, hle]
      generalize q : forGo _ _ _ _ _ _ = r
      obtain ⟨e, s', rfl, kvs', a5', rfl, rfl, hl', hk1, hk2⟩ := for_at q (fun j env st' => ∃ kvs a5, st' = st ++ [Ob.dT kvs] ∧ env = [some d, some y.enc, some (.ref n), some (.ref st.length), some (.ref kk), a5, none, none, none, none] ∧ kvs.length ≤ 30 * i + j ∧ (∀ s ∈ (stts p).take i, ∀ k, s.b ≤ k → k < s.e → Told p y kvs k s.c) ∧ ∀ k, s.b ≤ k → k < s.b + j → Told p y kvs k s.c)
        ⟨kvs, a5, e1, rfl, by omega, hk, fun k h1 h2 => by omega⟩ (fun _ _ _ _ _ => rfl) (fun j x env st' hj ⟨kvs, a5, e1, e2, hl, hk1, hk2⟩ => by
          obtain ⟨hj2, rfl⟩ := ints_getL hj
          subst e2
          have f4 := fld_column (sa [Ob.dT kvs]) [some d, some y.enc, some (.ref n), some (.ref st.length), some (.ref kk), some (.int ((s.b : Int) + (j : Int))), none, none, none, none] 4 rfl
          have w1 := width_ok hp so (sa [Ob.dT kvs]) y
          have hk' : (st ++ [Ob.dT kvs])[kk]? = some (.ins 12 (stFs s (cellsOf p s))) := sa [Ob.dT kvs]
          have ll : kvs.length < LIM := lt_LIM (by omega)
          have ww : wid y (cellsOf p s) = wAt p y (s.b + j) s.c := by
            unfold wAt
            rw [← covers_at (List.mem_of_getElem? hs) (k := s.b + j) (c := s.c) ⟨rfl, by omega, by omega⟩]
          have ds : dsetG (st ++ [Ob.dT kvs]) (.ref st.length) (.tup [.int ((s.b : Int) + (j : Int)), .int s.c]) (.int (wid y (cellsOf p s))) = some (st ++ [Ob.dT (putKD kvs (kkc (s.b + j) s.c) (.int (wAt p y (s.b + j) s.c)))]) := by
            have ek : kkc (s.b + j) s.c = [Sum.inl ((s.b : Int) + (j : Int)), Sum.inl (s.c : Int)] := by
              unfold kkc; rw [show ((s.b + j : Nat) : Int) = (s.b : Int) + (j : Int) by omega]
            rw [ek, ← ww]
            simp [dsetG, ll]
          rw [← e1] at f4 w1 hk' ds
          refine turn_eq (e := [some d, some y.enc, some (.ref n), some (.ref st.length), some (.ref kk), some (.int ((s.b : Int) + (j : Int))), none, none, none, none]) (s := st ++ [Ob.dT (putKD kvs (kkc (s.b + j) s.c) (.int (wAt p y (s.b + j) s.c)))]) (by
            simp [f4, -r_eFld, hk', st_width, w1, ds, gSb]) ⟨_, _, rfl, rfl, Nat.le_trans (putKD_len _ _ _) (by omega), fun s1 h1 k h2 h3 => told_put (.inl (hk1 s1 h1 k h2 h3)), fun k h1 h2 => told_put ?_⟩
          by_cases z : k = s.b + j
          · exact .inr ⟨z, rfl⟩
          · exact .inl (hk2 k h1 (by omega)))
      rw [intsD_len] at hl' hk2
      refine ⟨kvs', rfl, ⟨_, _, rfl⟩, by omega, fun s1 h1 k h2 h3 => ?_⟩
      rw [take_snoc hs, List.mem_append] at h1
      rcases h1 with h1 | h1
      · exact hk1 s1 h1 k h2 h3
      · obtain rfl : s1 = s := by simpa using h1
        exact hk2 k h2 (by omega))
  rw [hR.len, List.take_length] at hkv
  have told : ∀ k c, clo p c k = true → c < 5 → Told p y kvs k c := fun k c h hc => by
    obtain ⟨m, cv⟩ := sttAt_mem hc h
    have := hkv _ m k cv.2.1 cv.2.2
    rwa [cv.1] at this
  clear hkv hkl
  have hd1 : ∀ more, listOf (st ++ more) d = some (encP p, w) := fun more => listOf_stays (Stays.app _ _) hd
  simp [hd1]
  generalize q : forGo _ _ _ _ _ _ = r
  obtain ⟨e, s, rfl, a5, a7, a8, a9, rfl, rfl⟩ := for_at q (fun i env st' => ∃ a5 a7 a8 a9, st' = st ++ Ob.dT kvs :: .lst (refs (st.length + 2) i) :: (gridS p (sumW p y)).take i ∧ env = [some d, some y.enc, some (.ref n), some (.ref st.length), a4, a5, some (.ref (st.length + 1)), a7, a8, a9])
    ⟨_, _, _, _, by simp [refs], rfl⟩ (fun i env st' _ ⟨a5, a7, a8, a9, e1, e2⟩ => by subst e1; exact still_list (hd1 _)) (fun i x env st' hi ⟨a5, a7, a8, a9, e1, e2⟩ => by
      obtain ⟨z, hz, rfl⟩ := pairUp_at hi
      unfold encP at hz
      rw [List.getElem?_map] at hz
      cases er : p[i]? with
      | none => rw [er] at hz; cases hz
      | some r =>
        rw [er] at hz
        cases hz
        have hip := (List.getElem?_eq_some_iff.mp er).1
        have ci := cellsIn_row er
        have cl := cellsIn_le hp hip
        have el : st'.length = st.length + 2 + i := by rw [e1]; simp; omega
        have g0 : st'[st.length]? = some (.dT kvs) := by rw [e1]; simp
        have g1 : st'[st.length + 1]? = some (.lst (refs (st.length + 2) i)) := by rw [e1]; simp
        have m1 : -1000000 ≤ (r.length : Int) - 1 ∧ (r.length : Int) - 1 ≤ 1000000 := by omega
        have tn : ((r.length : Int) - 1).toNat = r.length - 1 := by omega
        subst e2
        simp [subG, m1, tn]
        generalize q : forGo _ _ _ _ _ _ = r'
        obtain ⟨e, s, rfl, a9', rfl, rfl⟩ := for_at q (fun j env st'' => ∃ a9, st'' = st' ++ [Ob.lst ((leftsN p y i (j + 1)).map .int)] ∧ env = [some d, some y.enc, some (.ref n), some (.ref st.length), a4, some (.int i), some (.ref (st.length + 1)), some (encR r), some (.ref st'.length), a9])
          ⟨_, rfl, rfl⟩ (fun _ _ _ _ _ => rfl) (fun j x env st'' hj ⟨a9, e1, e2⟩ => by
            obtain ⟨hj, rfl⟩ := ints_get hj
            have hcl : clo p j i = true := by rw [clo_cells hip, ci]; exact decide_eq_true (by omega)
            have tl := told i j hcl (by omega)
            have gA : (st' ++ [Ob.lst ((leftsN p y i (j + 1)).map D.int)])[st.length]? = some (.dT kvs) := get_app g0
            have gL : (st' ++ [Ob.lst ((leftsN p y i (j + 1)).map D.int)])[st'.length]? = some (.lst ((leftsN p y i (j + 1)).map .int)) := by simp
            have ixl : ixG (st' ++ [Ob.lst ((leftsN p y i (j + 1)).map D.int)]) (.ref st'.length) (.int (-1)) = .ok (.int (sumW p y i j), st' ++ [Ob.lst ((leftsN p y i (j + 1)).map D.int)]) := by
              have : atI ((leftsN p y i (j + 1)).map D.int) (-1) = some (.int (sumW p y i j)) := by
                rw [leftsN_succ, List.map_append]; exact atI_last _ _
              simp [ixG, lstOf, this]
            have dg : dgetG (st' ++ [Ob.lst ((leftsN p y i (j + 1)).map D.int)]) (.ref st.length) (.tup [.int i, .int j]) = .ok (.int (wAt p y i j), st' ++ [Ob.lst ((leftsN p y i (j + 1)).map D.int)]) := by
              have e3 : dvalG (st' ++ [Ob.lst ((leftsN p y i (j + 1)).map D.int)]) (.ref st.length) (.tup [.int i, .int j]) = some (some (.int (wAt p y i j))) := by
                simp only [dvalG, gA, keysOf_int, keysOf_nil, Option.map_some]
                exact congrArg some tl
              simp only [dgetG, e3]
            have tm : tyM (st' ++ [Ob.lst ((leftsN p y i (j + 1)).map D.int)]) (.ref st'.length) = some "list" := by simp only [tyM, gL]
            have ll : j + 1 < LIM := lt_LIM (by omega)
            have ap : appendG (st' ++ [Ob.lst ((leftsN p y i (j + 1)).map D.int)]) (.ref st'.length) [.int (sumW p y i j + wAt p y i j)] = .ok (.non, st' ++ [Ob.lst ((leftsN p y i (j + 2)).map D.int)]) := by
              rw [leftsN_succ p y i (j + 1)]
              simp [appendG, ll]
              rfl
            subst e2
            rw [← e1] at ixl dg tm ap
            exact turn_eq (e := [some d, some y.enc, some (.ref n), some (.ref st.length), a4, some (.int i), some (.ref (st.length + 1)), some (encR r), some (.ref st'.length), some (.int j)]) (s := st' ++ [Ob.lst ((leftsN p y i (j + 2)).map D.int)]) (by
              simp [ixl, dg, tm, ap, addG]) ⟨_, rfl, rfl⟩)
        rw [intsD_len]
        have h1 : r.length - 1 + 1 = cellsIn p i := by omega
        rw [h1]
        have gL : (st' ++ [Ob.lst ((leftsN p y i (cellsIn p i)).map D.int)])[st.length + 1]? = some (.lst (refs (st.length + 2) i)) := get_app g1
        have tm : tyM (st' ++ [Ob.lst ((leftsN p y i (cellsIn p i)).map D.int)]) (.ref (st.length + 1)) = some "list" := by simp only [tyM, gL]
        have ll : i < LIM := lt_LIM (by omega)
        have er' : rowI p (sumW p y) i = (leftsN p y i (cellsIn p i)).map D.int := rfl
        have ap : appendG (st' ++ [Ob.lst ((leftsN p y i (cellsIn p i)).map D.int)]) (.ref (st.length + 1)) [.ref st'.length] = .ok (.non, st ++ Ob.dT kvs :: .lst (refs (st.length + 2) (i + 1)) :: (gridS p (sumW p y)).take (i + 1)) := by
          simp only [appendG, gL, refs_len, ll, if_true]
          refine congrArg (fun l => R.ok (D.non, l)) ?_
          rw [refs_succ, ← el, take_snoc (gridS_at _ hip), er', e1]
          simp
        simp [tm, ap])
  rw [pairUp_len, encP_len]
  simp
  exact List.take_of_length_le (by simp)
end Dl
namespace Dl
open PySem L2
theorem stts_nodup (p : Page) : (stts p).Nodup := by
  unfold stts List.Nodup
  rw [List.pairwise_flatMap]
  refine ⟨fun c hc => ?_, ?_⟩
  · unfold sttsC
    rw [List.pairwise_map]
    have h0 : List.Pairwise (fun a b : Nat => a ≠ b) (begs p c p.length) := by
      unfold begs
      exact List.Pairwise.filter _ List.nodup_range
    exact h0.imp fun {a b} h z => h (congrArg Stt.b z)
  · have h0 : List.Pairwise (fun a b : Nat => a ≠ b) (List.range 5) := List.nodup_range
    refine h0.imp fun {a b} h x hx y hy z => ?_
    obtain ⟨b1, _, rfl⟩ := List.mem_map.mp hx
    obtain ⟨b2, _, rfl⟩ := List.mem_map.mp hy
    exact h (congrArg Stt.c z)
def cov (p : Page) (i k c : Nat) : Bool := ((stts p).take i).any fun s => decide (Covers s k c)
theorem cov_false {p : Page} {i : Nat} {s : Stt} (hs : (stts p)[i]? = some s) {k c : Nat} (hk : Covers s k c) : cov p i k c = false := by
  unfold cov
  rw [List.any_eq_false]
  intro s' h'
  simp only [decide_eq_true_eq]
  intro hc
  have e1 := covers_at (List.mem_of_mem_take h') hc
  have e2 := covers_at (List.mem_of_getElem? hs) hk
  rw [← e2] at e1
  subst e1
  obtain ⟨j, hj⟩ := List.mem_iff_getElem?.mp h'
  rw [List.getElem?_take] at hj
  split at hj
  · rename_i hlt
    obtain ⟨l1, g1⟩ := List.getElem?_eq_some_iff.mp hj
    obtain ⟨l2, g2⟩ := List.getElem?_eq_some_iff.mp hs
    have := List.pairwise_iff_getElem.mp (stts_nodup p) j i l1 l2 hlt
    exact this (g1.trans g2.symm)
  · cases hj
theorem cov_succ {p : Page} {i : Nat} {s : Stt} (hs : (stts p)[i]? = some s) (k c : Nat) : cov p (i + 1) k c = (cov p i k c || decide (Covers s k c)) := by
  unfold cov
  rw [take_snoc hs, List.any_append]
  simp
def upd2 (f : Nat → Nat → Int) (k c : Nat) (v : Int) : Nat → Nat → Int := fun k' c' => if k' = k ∧ c' = c then v else f k' c'
def layS (B : Store) (p : Page) (f : Nat → Nat → Int) : Store := B ++ .lst (refs (B.length + 1) p.length) :: gridS p f
section
variable {B : Store} {p : Page} {f : Nat → Nat → Int} {k c : Nat}
theorem lay_keep {o : Ob} {n : Nat} (h : B[n]? = some o) : (layS B p f)[n]? = some o := get_app h
theorem lay_found : (layS B p f)[B.length]? = some (.lst (refs (B.length + 1) p.length)) := by simp [layS]
theorem lay_row (hk : k < p.length) : (layS B p f)[B.length + 1 + k]? = some (.lst (rowI p f k)) := by
  unfold layS
  rw [List.getElem?_append_right (by omega), show B.length + 1 + k - B.length = k + 1 by omega, List.getElem?_cons_succ, gridS_at f hk]
theorem refs_get {n m : Nat} (h : k < m) : (refs n m)[k]? = some (.ref (n + k)) := by simp [refs, h]
theorem lay_ixF (hk : k < p.length) : ixG (layS B p f) (.ref B.length) (.int k) = .ok (.ref (B.length + 1 + k), layS B p f) := by
  have : lstOf (layS B p f) (.ref B.length) = some (refs (B.length + 1) p.length) := by simp only [lstOf, lay_found]
  simp only [ixG, this, atI_nat, refs_get hk]
  rfl
theorem lay_ixR (hk : k < p.length) (hc : c < cellsIn p k) : ixG (layS B p f) (.ref (B.length + 1 + k)) (.int c) = .ok (.int (f k c), layS B p f) := by
  have : lstOf (layS B p f) (.ref (B.length + 1 + k)) = some (rowI p f k) := by simp only [lstOf, lay_row hk]
  simp only [ixG, this, atI_nat, rowI_at f hc]
  rfl
theorem lay_set (hk : k < p.length) (hc : c < cellsIn p k) (v : Int) : setLG (layS B p f) (.ref (B.length + 1 + k)) (.int c) (.int v) = some (layS B p (upd2 f k c v)) := by
  have hx : ixN (rowI p f k).length (c : Int) = some c := by
    have h2 : (c : Int) < ((cellsIn p k : Nat) : Int) := by omega
    simp [ixN, hc]
  simp only [setLG, lay_row hk, hx]
  unfold layS upd2
  rw [List.set_append_right _ _ (by omega), show B.length + 1 + k - B.length = k + 1 by omega, List.set_cons_succ, gridS_set f hk hc]
end
theorem lay_congr {B : Store} {p : Page} {f g : Nat → Nat → Int} (h : ∀ k c, k < p.length → c < cellsIn p k → f k c = g k c) : layS B p f = layS B p g := by
  unfold layS; rw [gridS_congr h]
def m_begins_by : FV := funD 7 (d_begins_by m_stops_by m_Stretch_is_right m_Stretch_width)
theorem begins_by_ok {p : Page} (hp : okPage p = true) (y : Sty) {d : D} {w : List (Nat × List D)} {st : Store} (hd : listOf st d = some (encP p, w)) {n : Nat} {RR : List D} (hn : st[n]? = some (.lst RR)) (hR : All2 (IsSt p st) RR (stts p)) :
    ∃ kvs, m_begins_by [d, y.enc, .ref n] st = .ok (.ref (st.length + 1), layS (st ++ [.dT kvs]) p (bAt p y)) := by
  rw [m_begins_by, funD, d_begins_by]
  obtain ⟨p1, p2, p3⟩ := okPage_parts hp
  obtain ⟨kvs, sb⟩ := stops_by_ok hp y hd hn hR
  obtain ⟨B, hB⟩ : ∃ B, B = st ++ [Ob.dT kvs] := ⟨_, rfl⟩
  have Bl : B.length = st.length + 1 := by rw [hB]; simp
  have eS : st ++ Ob.dT kvs :: Ob.lst (refs (st.length + 2) p.length) :: gridS p (sumW p y) = layS B p (sumW p y) := by
    unfold layS
    rw [Bl, hB]; simp
  rw [eS, ← Bl] at sb
  refine ⟨kvs, ?_⟩
  rw [← hB, ← Bl]
  have hnB : B[n]? = some (.lst RR) := by rw [hB]; exact get_app hn
  have hit : ∀ f, itemsOf (layS B p f) (.ref n) = some (RR, [(n, RR)]) := fun f => by simp only [itemsOf, lay_keep hnB]
  have hRB : All2 (IsSt p B) RR (stts p) := hR.imp fun a b ⟨k, u, v⟩ => ⟨k, u, by rw [hB]; exact get_app v⟩
  clear hR hn hd
  simp [sb, hit]
  generalize q : forGo _ _ _ _ _ _ = r
  obtain ⟨e, s, rfl, f, a4, a5, a6, rfl, rfl, hf⟩ := for_at q (fun i env st' => ∃ f a4 a5 a6, st' = layS B p f ∧ env = [some d, some y.enc, some (.ref n), some (.ref B.length), a4, a5, a6] ∧ ∀ k c, f k c = if cov p i k c = true then bAt p y k c else sumW p y k c)
    ⟨_, _, _, _, rfl, rfl, fun k c => by simp [cov]⟩ (fun i env st' _ ⟨f, a4, a5, a6, e1, e2, e3⟩ => by subst e1; exact still_one (lay_keep hnB)) (fun i x env st' hi ⟨f, a4, a5, a6, e1, e2, hf⟩ => by
      obtain ⟨s, hs, kk, rfl, hkk⟩ := hRB.get hi
      have so := stts_mem (List.mem_of_getElem? hs)
      have slt := so.lt
      have sle := so.le
      have sc4 := so.c4
      have sa : ∀ f, StAt p (layS B p f) kk s := fun f => lay_keep hkk
      have hk' : ∀ f, (layS B p f)[kk]? = some (.ins 12 (stFs s (cellsOf p s))) := fun f => sa f
      have w2 := fun f => is_right_ok hp so (sa f)
      subst e1 e2
      cases hr : right (cellsOf p s) with
      | false =>
        rw [hr] at w2
        refine turn_eq (e := [some d, some y.enc, some (.ref n), some (.ref B.length), some (.ref kk), a5, a6]) (s := layS B p f) (by simp [hk', st_right, w2]) ⟨f, _, _, _, rfl, rfl, fun k c => ?_⟩
        rw [hf k c, cov_succ hs]
        by_cases hc : Covers s k c
        · have e0 : bAt p y k c = sumW p y k c := by
            unfold bAt rightAt
            rw [← covers_at (List.mem_of_getElem? hs) hc, hr]
            simp
          simp [e0]
        · simp [hc]
      | true =>
        rw [hr] at w2
        have f1 := fld_cells (sa f) [some d, some y.enc, some (.ref n), some (.ref B.length), some (.ref kk), a5, a6] 4 rfl
        have cl := cellsOf_len p s
        have m1 : (s.e - s.b : Nat) ≤ LIM := le_LIM (by omega)
        have m2 : -1000000 ≤ ((s.e - s.b : Nat) : Int) ∧ ((s.e - s.b : Nat) : Int) ≤ 1000000 := by omega
        simp [hk', st_right, w2, f1, -r_eFld, lenG, lstOf, cl, m1, m2]
        generalize q : forGo _ _ _ _ _ _ = r
        obtain ⟨e, s', rfl, f', a5', a6', rfl, rfl, hf'⟩ := for_at q (fun j env st' => ∃ f a5 a6, st' = layS B p f ∧ env = [some d, some y.enc, some (.ref n), some (.ref B.length), some (.ref kk), a5, a6] ∧ ∀ k c, f k c = if (cov p i k c || (decide (Covers s k c) && decide (k < s.b + j))) = true then bAt p y k c else sumW p y k c)
          ⟨f, _, _, rfl, rfl, fun k c => by
            rw [hf k c]
            have : (decide (Covers s k c) && decide (k < s.b + 0)) = false := by
              by_cases z : Covers s k c
              · have := z.2.1
                simp [z]; omega
              · simp [z]
            rw [this, Bool.or_false]⟩ (fun _ _ _ _ _ => rfl) (fun j x env st' hj ⟨f, a5, a6, e1, e2, hf⟩ => by
            obtain ⟨hj2, rfl⟩ := ints_get hj
            subst e1 e2
            have kp : s.b + j < p.length := by omega
            have hcl : clo p s.c (s.b + j) = true := so.clo _ (by omega) (by omega)
            have hcc : s.c + 1 < cellsIn p (s.b + j) := by
              rw [clo_cells kp] at hcl; exact of_decide_eq_true hcl
            have cv : Covers s (s.b + j) s.c := ⟨rfl, by omega, by omega⟩
            have sAt := covers_at (List.mem_of_getElem? hs) cv
            have fv : f (s.b + j) s.c = sumW p y (s.b + j) s.c := by
              rw [hf, cov_false hs cv]; simp
            have ww : wid y (cellsOf p s) = wAt p y (s.b + j) s.c := by unfold wAt; rw [← sAt]
            have bv : bAt p y (s.b + j) s.c = sumW p y (s.b + j) s.c + wid y (cellsOf p s) - y.g - ((cellAt p (s.b + j) s.c).length : Int) := by
              unfold bAt rightAt
              rw [hcl, ← sAt, hr, ww]
              rfl
            have env1 : ∀ z, eFld 12 "begin" (eV 4) [some d, some y.enc, some (.ref n), some (.ref B.length), some (.ref kk), some (.int j), z] (layS B p f) = .ok (.int s.b, layS B p f) := fun z => fld_begin (sa f) _ 4 rfl
            have env2 : ∀ z, eFld 12 "column" (eV 4) [some d, some y.enc, some (.ref n), some (.ref B.length), some (.ref kk), some (.int j), z] (layS B p f) = .ok (.int s.c, layS B p f) := fun z => fld_column (sa f) _ 4 rfl
            have env3 : ∀ z, eFld 12 "cells" (eV 4) [some d, some y.enc, some (.ref n), some (.ref B.length), some (.ref kk), some (.int j), z] (layS B p f) = .ok (.lst ((cellsOf p s).map .str), layS B p f) := fun z => fld_cells (sa f) _ 4 rfl
            have w1 := width_ok hp so (sa f) y
            have x1 := lay_ixF (B := B) (p := p) (f := f) kp
            rw [show ((s.b + j : Nat) : Int) = (s.b : Int) + (j : Int) by omega] at x1
            have x2 := lay_ixR (B := B) (p := p) (f := f) kp (show s.c < cellsIn p (s.b + j) by omega)
            rw [fv] at x2
            have x3 := lay_set (B := B) (p := p) (f := f) kp (show s.c < cellsIn p (s.b + j) by omega) (bAt p y (s.b + j) s.c)
            rw [bv] at x3
            have x4 : atI ((cellsOf p s).map D.str) (j : Int) = some (.str (cellAt p (s.b + j) s.c)) := by
              rw [atI_nat]
              have : j < s.e - s.b := by omega
              simp [cellsOf, this]
            refine turn_eq (e := [some d, some y.enc, some (.ref n), some (.ref B.length), some (.ref kk), some (.int j), some (.ref (B.length + 1 + (s.b + j)))]) (s := layS B p (upd2 f (s.b + j) s.c (sumW p y (s.b + j) s.c + wid y (cellsOf p s) - y.g - ((cellAt p (s.b + j) s.c).length : Int)))) (by
              simp [env1, env2, env3, -r_eFld, x1, x2, x3, x4, hk', st_width, w1, addG, subG, gSb]) ⟨_, _, _, rfl, rfl, fun k c => ?_⟩
            rw [← bv]
            unfold upd2
            by_cases z : k = s.b + j ∧ c = s.c
            · obtain ⟨rfl, rfl⟩ := z
              simp [cv]
            · rw [if_neg z, hf k c]
              have : (decide (Covers s k c) && decide (k < s.b + j)) = (decide (Covers s k c) && decide (k < s.b + (j + 1))) := by
                by_cases h : Covers s k c
                · have : k ≠ s.b + j := fun q => z ⟨q, h.1.symm⟩
                  simp only [h, decide_true, Bool.true_and]
                  refine decide_eq_decide.mpr ?_
                  omega
                · simp [h]
              rw [this])
        rw [intsD_len] at hf'
        refine ⟨f', rfl, ⟨_, _, _, rfl⟩, fun k c => ?_⟩
        rw [hf' k c, cov_succ hs]
        have : (decide (Covers s k c) && decide (k < s.b + (s.e - s.b))) = decide (Covers s k c) := by
          by_cases h : Covers s k c
          · have := h.2.2
            simp [h]; omega
          · simp [h]
        rw [this])
  rw [hRB.len] at hf
  simp
  refine lay_congr fun k c hk hc => ?_
  rw [hf k c]
  by_cases hcl : clo p c k = true
  · have h5 : c < 5 := by
      have := cellsIn_le hp hk
      rw [clo_cells hk] at hcl
      have := of_decide_eq_true hcl
      omega
    obtain ⟨m, cv⟩ := sttAt_mem h5 hcl
    have : cov p (stts p).length k c = true := by
      unfold cov
      rw [List.take_length, List.any_eq_true]
      exact ⟨_, m, decide_eq_true cv⟩
    rw [if_pos this]
  · have e0 : bAt p y k c = sumW p y k c := by
      unfold bAt rightAt
      simp [hcl]
    rw [e0]; simp
end Dl
namespace Dl
open PySem L2
end Dl
namespace Dl
open PySem L2
def m_stops : FV := funD 2 (d_stops m_need_page m_need_style m_stops_by m_all_stretches)
def m_laid : FV := funD 2 (d_laid m_need_page m_need_style m_begins_by m_all_stretches)
theorem stops_by_lay {p : Page} (hp : okPage p = true) (y : Sty) {d : D} {w : List (Nat × List D)} {st : Store} (hd : listOf st d = some (encP p, w)) {n : Nat} {RR : List D} (hn : st[n]? = some (.lst RR)) (hR : All2 (IsSt p st) RR (stts p)) :
    ∃ kvs, m_stops_by [d, y.enc, .ref n] st = .ok (.ref (st.length + 1), layS (st ++ [.dT kvs]) p (sumW p y)) := by
  obtain ⟨kvs, h⟩ := stops_by_ok hp y hd hn hR
  refine ⟨kvs, h.trans ?_⟩
  unfold layS
  simp
theorem stops_ok {p : Page} (hp : okPage p = true) {y : Sty} (hy : y.ok) {d : D} {w : List (Nat × List D)} {st : Store} (hd : listOf st d = some (encP p, w)) :
    ∃ M, m_stops [d, y.enc] st = .ok (.ref (st.length + M.length), layS (st ++ M) p (sumW p y)) := by
  rw [m_stops, funD, d_stops]
  obtain ⟨RR, more, ha, hR⟩ := all_stretches_ok hp hd
  have np := need_page_ok hd hp
  have ns := need_style_ok hy st
  have hd1 : listOf (st ++ .lst RR :: more) d = some (encP p, w) := listOf_stays (Stays.app _ _) hd
  obtain ⟨kvs, sb⟩ := stops_by_lay hp y hd1 (n := st.length) (RR := RR) (by simp) hR
  refine ⟨.lst RR :: more ++ [.dT kvs], ?_⟩
  simp [np, ns, ha, sb]
  omega
theorem laid_ok {p : Page} (hp : okPage p = true) {y : Sty} (hy : y.ok) {d : D} {w : List (Nat × List D)} {st : Store} (hd : listOf st d = some (encP p, w)) :
    ∃ M, m_laid [d, y.enc] st = .ok (.ref (st.length + M.length), layS (st ++ M) p (bAt p y)) := by
  rw [m_laid, funD, d_laid]
  obtain ⟨RR, more, ha, hR⟩ := all_stretches_ok hp hd
  have np := need_page_ok hd hp
  have ns := need_style_ok hy st
  have hd1 : listOf (st ++ .lst RR :: more) d = some (encP p, w) := listOf_stays (Stays.app _ _) hd
  obtain ⟨kvs, sb⟩ := begins_by_ok hp y hd1 (n := st.length) (RR := RR) (by simp) hR
  refine ⟨.lst RR :: more ++ [.dT kvs], ?_⟩
  simp [np, ns, ha, sb]
  omega
def rowsD (p : Page) (f : Nat → Nat → Int) : List D := (List.range p.length).map fun k => .lst (rowI p f k)
theorem lay_pre (st M : Store) (p : Page) (f : Nat → Nat → Int) : ∃ m, layS (st ++ M) p f = st ++ m := ⟨M ++ Ob.lst (refs ((st ++ M).length + 1) p.length) :: gridS p f, by unfold layS; rw [List.append_assoc]⟩
end Dl
namespace Dl
open PySem L2
/-- line_of: 5 slots, 2 parameters -/
def d_line_of : SV := sCons (sAsg (eC (.str [])) (gN 2)) (sCons (sFor (iZm (aCons (eV 0) (aCons (eV 1) (aNil)))) (gTp 2 (gsCons (gN 3) (gsCons (gN 4) (gsNil)))) (sIf (tv (eOp (eqG true) (eV 3) (eC (.str [])))) (sAsg (eOp (addG false) (eMt "str" (ljustG) (eV 2) (aCons (eV 4) (aNil))) (eV 3)) (gN 2)) (sNext))) (sRet (eV 2)))
/-- shown: 5 slots, 2 parameters -/
def d_shown (m_laid : FV) (m_line_of : FV) : SV := sCons (sAsg (eCall 2 m_laid (aCons (eV 0) (aCons (eV 1) (aNil)))) (gN 2)) (sRet (eLc true (iZp (aCons (eV 0) (aCons (eV 2) (aNil)))) [3, 4] (.two 3 4) (tYesD) (eCall 2 m_line_of (aCons (eV 3) (aCons (eV 4) (aNil))))))
end Dl
namespace Dl
open PySem L2
@[simp] theorem r_iZm (g : AV) (env : Env) (st : Store) : iZm g env st = (g env st).bind fun a => match a.1 with
  | [.tup ds, e] => match listOf a.2 e with
    | some w' => .ok ((zipUp ds w'.1, w'.2), a.2)
    | none => .bad
  | _ => .bad := (rfl)
theorem most_le {ss : List (List Nat)} (h0 : ss ≠ []) (h : ∀ s ∈ ss, s.length ≤ 10) : 0 ≤ most ss ∧ most ss ≤ 10 := by
  have ne : ss.map (fun s => (s.length : Int)) ≠ [] := by simpa using h0
  obtain ⟨h1, _⟩ := maxL_mem ne
  unfold most
  obtain ⟨s, hs, e⟩ := List.mem_map.mp h1
  have := h s hs
  rw [← e]
  omega
theorem wAt_b {p : Page} (hp : okPage p = true) {y : Sty} (hy : y.ok) {k c : Nat} (hk : k < p.length) (hc : c + 1 < cellsIn p k) : 0 ≤ wAt p y k c ∧ wAt p y k c ≤ 14 := by
  have hcl : clo p c k = true := by rw [clo_cells hk]; exact decide_eq_true hc
  have := (cellsIn_le hp hk).2
  obtain ⟨m, cv⟩ := sttAt_mem (by omega : c < 5) hcl
  obtain ⟨c1, c2, c3⟩ := cells_fit hp (stts_mem m)
  have b := most_le c2 fun s hs => (okCell_parts (c3 s hs)).1
  obtain ⟨⟨h1, h2⟩, h3, h4⟩ := hy
  unfold wAt wid
  omega
theorem sumW_b {p : Page} (hp : okPage p = true) {y : Sty} (hy : y.ok) {k : Nat} (hk : k < p.length) : ∀ c, c < cellsIn p k → 0 ≤ sumW p y k c ∧ sumW p y k c ≤ 14 * (c : Int)
  | 0, _ => by simp [sumW]
  | c + 1, h => by
    have h1 := sumW_b hp hy hk c (by omega)
    have h2 := wAt_b hp hy hk h
    simp only [sumW]
    omega
theorem cellAt_len {p : Page} (hp : okPage p = true) {k c : Nat} (hk : k < p.length) (hc : c < cellsIn p k) : (cellAt p k c).length ≤ 10 := by
  obtain ⟨p1, p2, p3⟩ := okPage_parts hp
  have hr : p[k]? = some p[k] := by simp [hk]
  rw [cellsIn_row hr] at hc
  obtain ⟨r1, r2, r3⟩ := okRow_parts (p3 _ (List.mem_of_getElem? hr))
  have e : cellAt p k c = p[k][c] := by simp [cellAt, hk, hc]
  rw [e]
  exact (okCell_parts (r3 _ (by simp))).1
theorem bAt_b {p : Page} (hp : okPage p = true) {y : Sty} (hy : y.ok) {k c : Nat} (hk : k < p.length) (hc : c < cellsIn p k) : -100 ≤ bAt p y k c ∧ bAt p y k c ≤ 100 := by
  have h6 := (cellsIn_le hp hk).2
  have h1 := sumW_b hp hy hk c hc
  have hl := cellAt_len hp hk hc
  have ⟨⟨g1, g2⟩, _⟩ := hy
  unfold bAt
  by_cases hr : rightAt p k c = true
  · rw [if_pos hr]
    have hcl : clo p c k = true := by
      unfold rightAt at hr
      simp only [Bool.and_eq_true] at hr
      exact hr.1
    rw [clo_cells hk] at hcl
    have h2 := wAt_b hp hy hk (of_decide_eq_true hcl)
    simp only [sumW]
    omega
  · rw [if_neg hr]
    omega
def lineN (p : Page) (f : Nat → Nat → Int) (k : Nat) : Nat → List Nat
  | 0 => []
  | n + 1 => if cellAt p k n = [] then lineN p f k n else ljustL (lineN p f k n) (f k n) ++ cellAt p k n
def lineR (p : Page) (f : Nat → Nat → Int) (k : Nat) : List Nat := lineN p f k (cellsIn p k)
theorem ljustL_len (s : List Nat) (i : Int) : (ljustL s i).length = max s.length i.toNat := by
  unfold ljustL
  rw [List.length_append, List.length_replicate]
  omega
theorem lineN_len {p : Page} (hp : okPage p = true) {f : Nat → Nat → Int} {k : Nat} (hk : k < p.length) (hf : ∀ c, c < cellsIn p k → -100 ≤ f k c ∧ f k c ≤ 100) : ∀ n, n ≤ cellsIn p k → (lineN p f k n).length ≤ 100 + 10 * n
  | 0, _ => by simp [lineN]
  | n + 1, h => by
    have ih := lineN_len hp hk hf n (by omega)
    have hl := cellAt_len hp hk (show n < cellsIn p k by omega)
    have := hf n (by omega)
    unfold lineN
    split
    · omega
    · rw [List.length_append, ljustL_len]
      omega
theorem zip_row {p : Page} {f : Nat → Nat → Int} {k : Nat} {r : Row} (hr : p[k]? = some r) {c : Nat} {x : D} (h : (zipUp (r.map .str) (rowI p f k))[c]? = some x) : c < cellsIn p k ∧ x = .tup [.str (cellAt p k c), .int (f k c)] := by
  obtain ⟨a, b, e1, e2, rfl⟩ := zipUp_at h
  have ci := cellsIn_row hr
  rw [List.getElem?_map] at e1
  have hc : c < r.length := by
    cases q : r[c]? with
    | none => rw [q] at e1; cases e1
    | some s => exact (List.getElem?_eq_some_iff.mp q).1
  have ec : cellAt p k c = r[c] := by simp [cellAt, hr, hc]
  have e3 : r[c]? = some r[c] := by simp [hc]
  rw [e3] at e1
  cases e1
  rw [rowI_at f (by omega)] at e2
  cases e2
  rw [ec]
  exact ⟨by omega, rfl⟩
theorem zip_row_len {p : Page} {f : Nat → Nat → Int} {k : Nat} {r : Row} (hr : p[k]? = some r) : (zipUp (r.map .str) (rowI p f k)).length = cellsIn p k := by
  rw [zipUp_len, List.length_map, rowI_len, cellsIn_row hr, Nat.min_self]
def m_line_of : FV := funD 5 d_line_of
theorem line_of_ok {p : Page} (hp : okPage p = true) {f : Nat → Nat → Int} {k : Nat} {r : Row} (hr : p[k]? = some r) (hf : ∀ c, c < cellsIn p k → -100 ≤ f k c ∧ f k c ≤ 100) {e : D} {w : List (Nat × List D)} {st : Store} (he : listOf st e = some (rowI p f k, w)) :
    m_line_of [encR r, e] st = .ok (.str (lineR p f k), st) := by
  rw [m_line_of, funD, d_line_of]
  have hk := (List.getElem?_eq_some_iff.mp hr).1
  have hc6 := (cellsIn_le hp hk).2
  simp [encR, he]
  generalize q : forGo _ _ _ _ _ _ = r'
  obtain ⟨e', s, rfl, rfl, a3, a4, rfl⟩ := for_at q (fun i env st' => st' = st ∧ ∃ a3 a4, env = [some (.tup (r.map .str)), some e, some (.str (lineN p f k i)), a3, a4]) ⟨rfl, _, _, rfl⟩ (fun i env st' _ hI => by rw [hI.1]; exact still_list he) (fun c x env st' hi ⟨e1, a3, a4, e2⟩ => by
    subst e1 e2
    obtain ⟨hc, rfl⟩ := zip_row hr hi
    have ll := lineN_len hp hk hf c (by omega)
    have hl := cellAt_len hp hk hc
    have hfc := hf c hc
    have b1 : -1000000 ≤ f k c := by omega
    have b2 : f k c ≤ 1000000 := by omega
    have jl := ljustL_len (lineN p f k c) (f k c)
    have l3 : (ljustL (lineN p f k c) (f k c)).length + (cellAt p k c).length ≤ LIM := le_LIM (by omega)
    by_cases z : cellAt p k c = []
    · simp [z, lineN]
    · simp [z, lineN, tyM, ljustG, b1, b2, addG, l3])
  rw [zip_row_len hr]
  simp [lineR]
def m_shown : FV := funD 5 (d_shown m_laid m_line_of)
def linesD (p : Page) (f : Nat → Nat → Int) : List D := (List.range p.length).map fun k => .str (lineR p f k)
theorem linesD_at {p : Page} {f : Nat → Nat → Int} {k : Nat} (h : k < p.length) : (linesD p f)[k]? = some (.str (lineR p f k)) := by simp [linesD, h]
theorem shown_ok {p : Page} (hp : okPage p = true) {y : Sty} (hy : y.ok) {d : D} {w : List (Nat × List D)} {st : Store} (hd : listOf st d = some (encP p, w)) :
    ∃ M, m_shown [d, y.enc] st = .ok (.ref (st.length + M.length), st ++ M ++ [.lst (linesD p (bAt p y))]) := by
  rw [m_shown, funD, d_shown]
  obtain ⟨M, la⟩ := laid_ok hp hy hd
  obtain ⟨p1, p2, p3⟩ := okPage_parts hp
  obtain ⟨S, hS⟩ : ∃ S, S = layS (st ++ M) p (bAt p y) := ⟨_, rfl⟩
  have hB : (st ++ M).length = st.length + M.length := by simp
  rw [← hS] at la
  have hdS : listOf S d = some (encP p, w) := by
    obtain ⟨m, e⟩ := lay_pre st M p (bAt p y)
    rw [hS, e]; exact listOf_stays (Stays.app _ _) hd
  have gF : S[st.length + M.length]? = some (.lst (refs (st.length + M.length + 1) p.length)) := by rw [hS, ← hB]; exact lay_found
  have hF : listOf S (.ref (st.length + M.length)) = some (refs (st.length + M.length + 1) p.length, [(st.length + M.length, refs (st.length + M.length + 1) p.length)]) := by simp only [listOf, gF]
  have zl : (zipUp (encP p) (refs (st.length + M.length + 1) p.length)).length = p.length := by
    rw [zipUp_len, encP_len, refs_len, Nat.min_self]
  have zl2 : p.length ≤ LIM := le_LIM (by omega)
  have ex : ∃ m, S = st ++ M ++ m := by
    rw [hS]; exact ⟨_, rfl⟩
  refine ⟨S.drop st.length, ?_⟩
  have eS : st ++ S.drop st.length = S := by
    obtain ⟨m, e⟩ := ex
    rw [e, List.append_assoc, List.drop_left]
  rw [eS]
  have lS : st.length + (S.drop st.length).length = S.length := by
    conv => rhs; rw [← eS]
    rw [List.length_append]
  rw [lS]
  simp [la, hdS, hF, zl, zl2]
  generalize q : lcGo _ _ _ _ _ _ _ _ = r'
  obtain ⟨acc, s, rfl, rfl, rfl⟩ := lc_at q (fun i acc st' => S = st' ∧ acc = (linesD p (bAt p y)).take i) ⟨rfl, rfl⟩ (fun i acc st' _ hI => by
    rw [← hI.1]
    unfold still
    rw [List.all_append, Bool.and_eq_true]
    exact ⟨still_list hdS, still_list hF⟩) (fun i x acc st' hi ⟨e1, e2⟩ => by
    subst e1 e2
    obtain ⟨a, b, e1, e2, rfl⟩ := zipUp_at hi
    unfold encP at e1
    rw [List.getElem?_map] at e1
    cases er : p[i]? with
    | none => rw [er] at e1; cases e1
    | some r =>
      rw [er] at e1
      cases e1
      have hip := (List.getElem?_eq_some_iff.mp er).1
      rw [refs_get hip] at e2
      cases e2
      have gR : S[st.length + M.length + 1 + i]? = some (.lst (rowI p (bAt p y) i)) := by rw [hS, ← hB]; exact lay_row hip
      have lo := line_of_ok hp er (f := bAt p y) (fun c hc => bAt_b hp hy hip hc) (e := .ref (st.length + M.length + 1 + i)) (w := [(st.length + M.length + 1 + i, rowI p (bAt p y) i)]) (st := S) (by simp only [listOf, gR])
      refine ⟨_, rfl, ?_⟩
      simp [lo]
      rw [take_snoc (linesD_at hip)])
  rw [zl]
  simp [newL]
  exact List.take_of_length_le (by simp [linesD])
end Dl
namespace Dl
open PySem L2
end Dl
namespace Dl
open PySem L2
end Dl
namespace Dl
open PySem L2
end Dl
namespace Dl
open PySem L2
/-- a list of rows of numbers stands at n -/
def Lays (Z : Store) (n : Nat) (p : Page) (f : Nat → Nat → Int) : Prop := Z[n]? = some (.lst (refs (n + 1) p.length)) ∧ ∀ k, k < p.length → Z[n + 1 + k]? = some (.lst (rowI p f k))
theorem lays_of (B : Store) (p : Page) (f : Nat → Nat → Int) : Lays (layS B p f) B.length p f := ⟨lay_found, fun k hk => lay_row hk⟩
theorem Lays.stays {Z Z' : Store} {n : Nat} {p : Page} {f : Nat → Nat → Int} (h : Lays Z n p f) (s : Stays Z Z') : Lays Z' n p f := ⟨s _ _ h.1, fun k hk => s _ _ (h.2 k hk)⟩
end Dl
namespace Dl
open PySem L2
end Dl
namespace Dl
open PySem L2
theorem cell_in {p : Page} {k c : Nat} (hc : c < 5) (hk : clo p c k = true) : cellAt p k c ∈ cellsOf p (sttAt p k c) := by
  obtain ⟨m, cv⟩ := sttAt_mem hc hk
  unfold cellsOf
  refine List.mem_map.mpr ⟨k - (sttAt p k c).b, ?_, ?_⟩
  · rw [List.mem_range]
    have := cv.2.1
    have := cv.2.2
    omega
  · have := cv.2.1
    rw [show (sttAt p k c).b + (k - (sttAt p k c).b) = k by omega]
    rfl
end Dl
namespace Dl
open PySem L2
structure Same (p p' : Page) : Prop where
  len : p'.length = p.length
  cells : ∀ k, cellsIn p' k = cellsIn p k
theorem Same.clo {p p' : Page} (h : Same p p') : clo p' = clo p := by
  funext c k
  by_cases hk : k < p.length
  · rw [clo_cells hk, clo_cells (by rw [h.len]; exact hk), h.cells]
  · rw [clo_out (p := p') (by rw [h.len]; omega), clo_out (p := p) (by omega)]
theorem row_cell {p : Page} {k c : Nat} {r : Row} (hr : p[k]? = some r) (hc : c < r.length) : cellAt p k c = r[c] := by simp [cellAt, hr, hc]
theorem okPage_same {p p' : Page} (hp : okPage p = true) (h : Same p p') (hc : ∀ k c, k < p.length → c < cellsIn p k → okCell (cellAt p' k c) = true) : okPage p' = true := by
  obtain ⟨p1, p2, p3⟩ := okPage_parts hp
  unfold okPage
  simp only [Bool.and_eq_true, decide_eq_true_eq, List.all_eq_true]
  refine ⟨⟨by rw [h.len]; exact p1, by rw [h.len]; exact p2⟩, fun r hr => ?_⟩
  obtain ⟨k, hk⟩ := List.mem_iff_getElem?.mp hr
  have hkl : k < p.length := by rw [← h.len]; exact (List.getElem?_eq_some_iff.mp hk).1
  have e := cellsIn_row hk
  rw [h.cells] at e
  have b := cellsIn_le hp hkl
  unfold okRow
  simp only [Bool.and_eq_true, decide_eq_true_eq, List.all_eq_true]
  refine ⟨⟨by omega, by omega⟩, fun s hs => ?_⟩
  obtain ⟨c, hcc⟩ := List.mem_iff_getElem?.mp hs
  obtain ⟨hcl, hce⟩ := List.getElem?_eq_some_iff.mp hcc
  have := hc k c hkl (by omega)
  rw [row_cell hk hcl, hce] at this
  exact this
structure Sh (p : Page) (c : Nat) (S : Nat → Bool) (p' : Page) : Prop where
  same : Same p p'
  cell : ∀ j c', cellAt p' j c' = if c' = c ∧ S j = true then (cellAt p j c').drop 1 else cellAt p j c'
theorem Sh.refl (p : Page) (c : Nat) : Sh p c (fun _ => false) p := ⟨⟨rfl, fun _ => rfl⟩, fun j c' => by simp⟩
theorem drop_ok {s : List Nat} (h : okCell s = true) : okCell (s.drop 1) = true := by
  unfold okCell at h ⊢
  simp only [Bool.and_eq_true, decide_eq_true_eq, List.all_eq_true] at h ⊢
  exact ⟨by rw [List.length_drop]; omega, fun c hc => h.2 c (List.mem_of_mem_drop hc)⟩
theorem cellAt_ok {p : Page} (hp : okPage p = true) {k c : Nat} (hk : k < p.length) (hc : c < cellsIn p k) : okCell (cellAt p k c) = true := by
  obtain ⟨p1, p2, p3⟩ := okPage_parts hp
  have hr : p[k]? = some p[k] := by simp [hk]
  rw [cellsIn_row hr] at hc
  obtain ⟨r1, r2, r3⟩ := okRow_parts (p3 _ (List.mem_of_getElem? hr))
  rw [row_cell hr hc]
  exact r3 _ (by simp)
theorem Sh.ok {p p' : Page} {c : Nat} {S : Nat → Bool} (h : Sh p c S p') (hp : okPage p = true) : okPage p' = true := by
  refine okPage_same hp h.same fun k c' hk hc => ?_
  rw [h.cell]
  split
  · exact drop_ok (cellAt_ok hp hk hc)
  · exact cellAt_ok hp hk hc
end Dl
namespace Dl
open PySem L2
end Dl
namespace Dl
open PySem L2
end Dl
namespace Dl
open PySem L2
end Dl
namespace Dl
open PySem L2
end Dl
namespace Dl
open PySem L2
def Sim (x x' : List Nat) : Prop := x.length = x'.length ∧ figs x = figs x'
/-- all rows between are closed -/
def Run (p : Page) (c k j : Nat) : Prop := ∀ i, min k j ≤ i → i ≤ max k j → clo p c i = true
/-- rows of two pages that lie alike -/
structure Xf (p p' : Page) (R : Nat → Nat → Prop) : Prop where
  lt : ∀ k k', R k k' → k < p.length ∧ k' < p'.length
  cells : ∀ k k', R k k' → cellsIn p k = cellsIn p' k'
  sim : ∀ k k' c, R k k' → c < cellsIn p k → Sim (cellAt p k c) (cellAt p' k' c)
  run1 : ∀ k k' c j, R k k' → Run p c k j → ∃ j', R j j' ∧ Run p' c k' j'
  run2 : ∀ k k' c j', R k k' → Run p' c k' j' → ∃ j, R j j' ∧ Run p c k j
section
variable {p p' : Page} {R : Nat → Nat → Prop}
theorem Xf.clo (h : Xf p p' R) {k k' : Nat} (r : R k k') (c : Nat) : clo p' c k' = clo p c k := by
  obtain ⟨a, b⟩ := h.lt k k' r
  rw [clo_cells a, clo_cells b, h.cells k k' r]
end
end Dl
namespace Dl
open PySem L2
theorem All2.snoc {A B : Type} {R : A → B → Prop} {as : List A} {bs : List B} {a : A} {b : B} (h : All2 R as bs) (k : R a b) : All2 R (as ++ [a]) (bs ++ [b]) := h.app ⟨k, trivial⟩
end Dl
namespace Dl
open PySem L2
def Sty.up (y : Sty) : Sty := ⟨y.g + 1, y.l⟩
end Dl
namespace Dl
open PySem L2
@[simp] theorem r_eRevL (m : Bool) (f : EV) (env : Env) (st : Store) : eRevL m f env st = (f env st).bind fun a => match lstOf a.2 a.1 with
  | some ds => newL m ds.reverse a.2
  | none => .bad := (rfl)
theorem stops_rd {p : Page} (hp : okPage p = true) {y : Sty} (hy : y.ok) {d : D} {w : List (Nat × List D)} {st : Store} (hd : listOf st d = some (encP p, w)) : ∃ n M, m_stops [d, y.enc] st = .ok (.ref n, st ++ M) ∧ st.length ≤ n ∧ Lays (st ++ M) n p (sumW p y) := by
  obtain ⟨M, so⟩ := stops_ok hp hy hd
  obtain ⟨m, e⟩ := lay_pre st M p (sumW p y)
  refine ⟨st.length + M.length, m, by rw [← e]; exact so, by omega, ?_⟩
  have := lays_of (st ++ M) p (sumW p y)
  rwa [e, List.length_append] at this
@[simp] theorem rowsD_len (p : Page) (f : Nat → Nat → Int) : (rowsD p f).length = p.length := by simp [rowsD]
theorem okPage_mk {p : Page} (h1 : 1 ≤ p.length) (h2 : p.length ≤ 30) (h3 : ∀ r ∈ p, okRow r = true) : okPage p = true := by
  unfold okPage
  simp only [Bool.and_eq_true, decide_eq_true_eq, List.all_eq_true]
  exact ⟨⟨h1, h2⟩, h3⟩
end Dl
namespace Dl
open PySem L2
end Dl
namespace Dl
open PySem L2
/-- is_line: 2 slots, 1 parameters -/
def d_is_line (m_is_sign : FV) : SV := sRet (eAnd (eIs "str" (eV 0)) (eAnd (eOp leG (eB lenG (aCons (eV 0) (aNil))) (eC (.int 200))) (eOp (eqG false) (eLc false (iSeq (eV 0)) [1] (.one 1) (tNotD (tv (eCall 1 m_is_sign (aCons (eV 1) (aNil))))) (eV 1)) (eLst false (aNil)))))
/-- need_lines: 3 slots, 1 parameters -/
def d_need_lines (m_is_line : FV) : SV := sFor (iEn (aCons (eV 0) (aNil))) (gTp 2 (gsCons (gN 1) (gsCons (gN 2) (gsNil)))) (sIf (tOrD (tv (eOp geG (eV 1) (eC (.int 30)))) (tNotD (tv (eCall 1 m_is_line (aCons (eV 2) (aNil)))))) (sRaiseP 8 (eV 1)) (sNext))
end Dl
namespace Dl
open PySem L2
section
variable {g : G2} {fa fb : EV} {env : Env} {st sx sy : Store} {x y : D} {r : R (D × Store)}
theorem sCons_nx {f h : SV} {e : Env} {s : Store} (h1 : f env st = .nx e s) : sCons f h env st = h e s := by
  rw [r_sCons, h1]
  rfl
theorem sAsgN_at {i : Nat} (h1 : fa env st = .ok (x, sx)) : sAsg fa (gN i) env st = .nx (env.set i (some x)) sx := by
  rw [r_sAsg, h1]
  rfl
theorem sIf_at {t : TV} {f h : SV} {b : Bool} (h1 : t env st = .ok (b, sx)) : sIf t f h env st = if b = true then f env sx else h env sx := by
  rw [r_sIf, h1]
  rfl
end
def strsD (l : List (List Nat)) : List D := l.map D.str
theorem fr_ty (st : Store) (L : List D) : tyM (st ++ [.lst L]) (.ref st.length) = some "list" := by simp only [tyM, List.getElem?_concat_length]
theorem fr_app (st : Store) {L : List D} (d : D) (h : L.length < 1000000) : appendG (st ++ [.lst L]) (.ref st.length) [d] = .ok (.non, st ++ [.lst (L ++ [d])]) := by
  have hx : st ++ [Ob.lst (L ++ [d])] = List.set (st ++ [Ob.lst L]) st.length (Ob.lst (L ++ [d])) := by
    rw [List.set_append_right _ _ (Nat.le_refl _)]; simp
  rw [hx]
  simp only [appendG, List.getElem?_concat_length]
  rw [if_pos (lt_LIM h)]
theorem add_ii (st : Store) (m : Bool) (a b : Int) : addG m st (.int a) (.int b) = .ok (.int (a + b), st) := rfl
theorem sl_s (m : Bool) (st : Store) (s : List Nat) (lo hi : Option Int) : slG m st (.str s) lo hi = .ok (.str (cutD s lo hi), st) := by simp [slG]
theorem ixL (st : Store) (ds : List D) (i : Int) : ixG st (.lst ds) (.int i) = R.of ((atI ds i).map fun x => (x, st)) := (rfl)
theorem len_s (st : Store) (s : List Nat) : lenG st [.str s] = .ok (.int s.length, st) := by simp [lenG]
end Dl
namespace Dl
open PySem L2
def okLine (s : List Nat) : Bool := decide (s.length ≤ 200) && s.all okSign
def lineD : D → Bool
  | .str s => okLine s
  | _ => false
/-- kinds that are handed in as lines -/
def D.knd : D → Bool
  | .non => true
  | .bl _ => true
  | .int _ => true
  | .str _ => true
  | .tup _ => true
  | .lst _ => true
  | _ => false
def m_is_line : FV := funD 2 (d_is_line m_is_sign)
theorem is_line_str (s : List Nat) (hs : s.length ≤ 1000000) (st : Store) : m_is_line [.str s] st = .ok (.bl (okLine s), st) := by
  unfold m_is_line funD d_is_line
  simp [tyOf, subTy, leG, lenG]
  by_cases h : s.length ≤ 200
  · have h' : ((s.length : Int) ≤ 200) := by omega
    have hl : s.length ≤ LIM := le_LIM hs
    simp [h', hl, itemsOf]
    rw [lc_keep rfl (fun d => match d with | .str [c] => !okSign c | _ => true) _ (fun d hd => ?_) (by simp [wipeD])]
    · have e : (s.map fun c => D.str [c]).filter (fun d => match d with | .str [c] => !okSign c | _ => true) = ((s.filter fun c => !okSign c).map fun c => [c]).map D.str := by
        rw [List.filter_map, List.map_map]; rfl
      simp only [R.bind_ok, e]
      rw [eq_nilD (pls_strs _) (Nat.le_trans (dps_strs _) (by decide))]
      simp only [R.bind_ok, sOf_ok, List.map_eq_nil_iff]
      congr 3
      rw [okLine, decide_eq_true h, Bool.true_and, Bool.eq_iff_iff]
      simp [List.filter_eq_nil_iff]
    · obtain ⟨c, _, rfl⟩ := List.mem_map.mp hd
      simp [wipeD, is_sign_str]
  · have h' : ¬ ((s.length : Int) ≤ 200) := by omega
    simp [h', h, okLine]
theorem is_line_d {d : D} (k : D.knd d = true) (hs : D.sm d = true) (hl : ∀ s, d = .str s → s.length ≤ 1000000) (st : Store) : m_is_line [d] st = .ok (.bl (lineD d), st) := by
  cases d with
  | str s => exact is_line_str s (hl s rfl) st
  | non => unfold m_is_line funD d_is_line; simp [tyOf, subTy, lineD]
  | bl b => unfold m_is_line funD d_is_line; simp [tyOf, subTy, lineD]
  | int i => unfold m_is_line funD d_is_line; simp [tyOf, subTy, lineD]
  | tup ds => unfold m_is_line funD d_is_line; simp [tyOf, subTy, lineD]
  | lst ds => unfold m_is_line funD d_is_line; simp [tyOf, subTy, lineD]
  | ref n => cases k
  | scr n => cases k
  | exn a o => cases k
/-- what may be handed in as a line -/
def D.lk (d : D) : Prop := D.knd d = true ∧ D.sm d = true ∧ ∀ s, d = .str s → s.length ≤ 1000000
theorem is_line_k {d : D} (k : D.lk d) (st : Store) : m_is_line [d] st = .ok (.bl (lineD d), st) := is_line_d k.1 k.2.1 k.2.2 st
theorem okLine_parts {s : List Nat} (h : okLine s = true) : s.length ≤ 200 ∧ ∀ c ∈ s, okSign c = true := by
  simp only [okLine, Bool.and_eq_true, decide_eq_true_eq, List.all_eq_true] at h
  exact h
theorem lk_line {d : D} (h : lineD d = true) : D.lk d := by
  cases d with
  | str s => exact ⟨rfl, rfl, fun t e => by cases e; have := (okLine_parts h).1; omega⟩
  | _ => cases h
def m_need_lines : FV := funD 3 (d_need_lines m_is_line)
theorem need_lines_ok {ds : List D} {d : D} {w : List (Nat × List D)} {st : Store} (h : listOf st d = some (ds, w)) (hl : ds.length ≤ 30) (ha : ∀ x ∈ ds, lineD x = true) : m_need_lines [d] st = .ok (.non, st) := by
  unfold m_need_lines funD d_need_lines
  simp [h]
  generalize hf : forGo _ _ _ _ _ _ = r
  obtain ⟨e, s, rfl, rfl, e2⟩ := for_at hf (fun i env st' => st' = st ∧ ∃ a b, env = [some d, a, b]) ⟨rfl, _, _, rfl⟩ (fun i env st' _ hI => by rw [hI.1]; exact still_list h) (fun i x env st' hi hI => by
      obtain ⟨rfl, a, b, rfl⟩ := hI
      obtain ⟨y, hy, rfl⟩ := pairUp_at hi
      have hr := ha y (List.mem_of_getElem? hy)
      have hi := (List.getElem?_eq_some_iff.mp hy).1
      have hi2 : ¬ (30 : Int) ≤ i := by omega
      simp [geG, hi2, is_line_k (lk_line hr), hr])
  rfl
theorem need_lines_bad {ds : List D} {d x : D} {k : Nat} {w : List (Nat × List D)} {st : Store} (h : listOf st d = some (ds, w)) (hx : ds[k]? = some x) (hk : k ≤ 30) (ha : ∀ (j : Nat) (y : D), j < k → ds[j]? = some y → lineD y = true) (hb : k = 30 ∨ lineD x = false) (hn : D.lk x) : m_need_lines [d] st = .exc 8 (some (.int k)) st := by
  unfold m_need_lines funD d_need_lines
  simp [h]
  generalize hf : forGo _ _ _ _ _ _ = r
  have hlt := (List.getElem?_eq_some_iff.mp hx).1
  have := for_atE hf (fun i env st' => st' = st ∧ i ≤ k ∧ ∃ a b, env = [some d, a, b]) (fun r => r = .exc 8 (some (.int k)) st) ⟨rfl, Nat.zero_le _, _, _, rfl⟩ (fun i env st' _ hI => by rw [hI.1]; exact still_list h) (fun i y env st' hi hI => by
      obtain ⟨rfl, hik, a, b, rfl⟩ := hI
      obtain ⟨y, hy, rfl⟩ := pairUp_at hi
      refine ⟨[some d, some (.int i), some y], st', by simp, ?_⟩
      by_cases e : i = k
      · subst e
        rw [hx] at hy
        cases hy
        rcases hb with rfl | hb
        · simp [geG]
        · by_cases h30 : (30 : Int) ≤ i
          · simp [geG, h30]
          · simp [geG, h30, is_line_k hn, hb]
      · have hr := ha i y (by omega) hy
        have hi2 : ¬ (30 : Int) ≤ i := by omega
        simp [geG, hi2, is_line_k (lk_line hr), hr]
        omega) (fun e s hI => by
      obtain ⟨_, hle, _⟩ := hI
      rw [pairUp_len] at hle
      omega)
  rw [this]
end Dl
namespace Dl
open PySem L2
end Dl
namespace Dl
open PySem L2
end Dl
namespace Dl
open PySem L2
/-- lines of which one can't be: k is the first -/
def BadL (ds : List D) (k : Nat) : Prop := k ≤ 30 ∧ ∃ x, ds[k]? = some x ∧ (∀ (j : Nat) (y : D), j < k → ds[j]? = some y → lineD y = true) ∧ (k = 30 ∨ lineD x = false) ∧ D.lk x
theorem BadL.exc {ds : List D} {k : Nat} (h : BadL ds k) (st : Store) : m_need_lines [.lst ds] st = .exc 8 (some (.int k)) st := by
  obtain ⟨h1, x, h2, h3, h4, h5⟩ := h
  exact need_lines_bad (d := .lst ds) (w := []) rfl h2 h1 h3 h4 h5
@[simp] theorem strsD_len (nss : List (List Nat)) : (strsD nss).length = nss.length := by simp [strsD]
end Dl
namespace Dl
open PySem L2
end Dl
namespace Dl
open PySem L2
end Dl
namespace Dl
open PySem L2
def intD (ps : List Nat) : List D := ps.map fun (k : Nat) => D.int (k : Int)
@[simp] theorem intD_len (ps : List Nat) : (intD ps).length = ps.length := by simp [intD]
end Dl
namespace Dl
open PySem L2
end Dl
namespace Dl
open PySem L2
end Dl
namespace Dl
open PySem L2
end Dl
namespace Dl
open PySem L2
end Dl
namespace Dl
open PySem L2
abbrev isBk : Nat → Bool := fun c => ([32] : List Nat).contains c
theorem isBk_eq (c : Nat) : isBk c = decide (c = 32) := by
  by_cases h : c = 32
  · subst h; rfl
  · simp [isBk, h]
theorem lcut_plain {T : List Nat} (h : T.head? ≠ some 32) : lcut isBk T = T := by
  cases T with
  | nil => rfl
  | cons c r =>
    have hc : isBk c = false := by rw [isBk_eq]; simp at h; simpa using h
    unfold lcut
    rw [List.takeWhile_cons, if_neg (by rw [hc]; simp)]
    rfl
theorem lcut_blank (l : List Nat) : lcut isBk (32 :: l) = lcut isBk l := by
  unfold lcut
  rw [List.takeWhile_cons, if_pos (by rw [isBk_eq]; rfl)]
  rfl
theorem lcut_eq {T : List Nat} (h : T.head? ≠ some 32) : ∀ a : Nat, lcut isBk (List.replicate a 32 ++ T) = T
  | 0 => by simpa using lcut_plain h
  | a + 1 => by rw [List.replicate_succ, List.cons_append, lcut_blank]; exact lcut_eq h a
theorem rcut_rev (p : Nat → Bool) (s : List Nat) : rcut p s = (lcut p s.reverse).reverse := by
  unfold rcut lcut
  rw [List.drop_reverse, List.reverse_reverse]
theorem rcut_eq {T : List Nat} (h : T.getLast? ≠ some 32) (b : Nat) : rcut isBk (T ++ List.replicate b 32) = T := by
  rw [rcut_rev, List.reverse_append, List.reverse_replicate, lcut_eq (by rw [List.head?_reverse]; exact h), List.reverse_reverse]
theorem head_app {T : List Nat} {b : Nat} (h : T ≠ [] ∨ b = 0) (k : T.head? ≠ some 32) : (T ++ List.replicate b 32).head? ≠ some 32 := by
  cases T with
  | nil =>
    rcases h with h | h
    · exact absurd rfl h
    · subst h; simp
  | cons c r => simpa using k
/-- a text without blanks at its ends -/
structure Bare (T : List Nat) : Prop where
  hd : T.head? ≠ some 32
  la : T.getLast? ≠ some 32
theorem strip_eq {T : List Nat} (h : Bare T) (a b : Nat) : stripL [32] (List.replicate a 32 ++ (T ++ List.replicate b 32)) = T := by
  unfold stripL
  by_cases hT : T = []
  · subst hT
    have : List.replicate a 32 ++ ([] ++ List.replicate b 32) = List.replicate (a + b) 32 ++ ([] : List Nat) := by simp
    rw [this]
    show rcut isBk (lcut isBk _) = _
    rw [lcut_eq (by simp)]
    rfl
  · show rcut isBk (lcut isBk _) = _
    rw [lcut_eq (head_app (.inl hT) h.hd), rcut_eq h.la]
theorem lcut_dec : ∀ s : List Nat, ∃ a, s = List.replicate a 32 ++ lcut isBk s ∧ (lcut isBk s).head? ≠ some 32
  | [] => ⟨0, rfl, by simp [lcut]⟩
  | c :: r => by
    by_cases h : c = 32
    · subst h
      obtain ⟨a, e, k⟩ := lcut_dec r
      rw [lcut_blank]
      exact ⟨a + 1, by rw [List.replicate_succ, List.cons_append, ← e], k⟩
    · have := lcut_plain (T := c :: r) (by simpa using h)
      rw [this]
      exact ⟨0, rfl, by simpa using h⟩
theorem rcut_dec (s : List Nat) : ∃ b, s = rcut isBk s ++ List.replicate b 32 ∧ (rcut isBk s).getLast? ≠ some 32 := by
  obtain ⟨b, e, k⟩ := lcut_dec s.reverse
  refine ⟨b, ?_, ?_⟩
  · rw [rcut_rev]
    have := congrArg List.reverse e
    rw [List.reverse_reverse, List.reverse_append, List.reverse_replicate] at this
    exact this
  · rw [rcut_rev, List.getLast?_reverse]
    exact k
theorem rcut_head {s : List Nat} (h : s.head? ≠ some 32) : (rcut isBk s).head? ≠ some 32 := by
  obtain ⟨b, e, _⟩ := rcut_dec s
  cases q : rcut isBk s with
  | nil => simp
  | cons c r =>
    rw [q] at e
    rw [e] at h
    simpa using h
theorem strip_dec (s : List Nat) : ∃ a b, s = List.replicate a 32 ++ (stripL [32] s ++ List.replicate b 32) ∧ Bare (stripL [32] s) := by
  obtain ⟨a, e, k⟩ := lcut_dec s
  obtain ⟨b, e2, k2⟩ := rcut_dec (lcut isBk s)
  refine ⟨a, b, ?_, rcut_head k, k2⟩
  show s = List.replicate a 32 ++ (rcut isBk (lcut isBk s) ++ List.replicate b 32)
  rw [← e2]; exact e
theorem rcut_plain {T : List Nat} (h : T.getLast? ≠ some 32) : rcut isBk T = T := by
  have := rcut_eq h 0
  simpa using this
end Dl
namespace Dl
open PySem L2
structure Stk where
  n : Nat
  b : Nat
  sg : List Nat
def Stk.ok (s : Stk) : Prop := s.n ≤ 29 ∧ s.sg ≠ [] ∧ s.b + s.sg.length ≤ 200 ∧ ∀ c ∈ s.sg, okSign c = true
def Stk.enc (s : Stk) : D := .tup [.int s.n, .int s.b, .str s.sg]
def ov (u : List Nat) (b : Nat) (sg : List Nat) : List Nat := u.take b ++ (sg ++ u.drop (b + sg.length))
end Dl
namespace Dl
open PySem L2
end Dl
namespace Dl
open PySem L2
def drD (dr : List Stk) : List D := dr.map Stk.enc
@[simp] theorem drD_len (dr : List Stk) : (drD dr).length = dr.length := by simp [drD]
end Dl
namespace Dl
open PySem L2
def chD (u : List Nat) : List D := u.map fun c => D.str [c]
@[simp] theorem chD_len (u : List Nat) : (chD u).length = u.length := by simp [chD]
end Dl
namespace Dl
open PySem L2
end Dl
namespace Dl
open PySem L2
end Dl
namespace Dl
open PySem L2
end Dl
namespace Dl
open PySem L2
abbrev Pos3 := Nat × Nat × Nat
def Valid (p : Page) (t : Pos3) : Prop := t.1 < p.length ∧ t.2.1 < cellsIn p t.1 ∧ t.2.2 ≤ (cellAt p t.1 t.2.1).length
end Dl
namespace Dl
open PySem L2
def shFs (p : Page) (y : Sty) (L Q : Nat) : List (Str × D) := [("rows", .lst (encP p)), ("style", y.enc), ("lefts", .ref L), ("past", .ref Q)]
def cuFs (n : Nat) (t : Pos3) : List (Str × D) := [("sheet", .ref n), ("number", .int t.1), ("cell", .int t.2.1), ("place", .int t.2.2)]
/-- a sheet -/
def ShAt (S : Store) (n : Nat) (p : Page) (y : Sty) (ps : List Page) (lo : Nat) : Prop := ∃ L Q, S[n]? = some (.ins 13 (shFs p y L Q)) ∧ Lays S L p (bAt p y) ∧ S[Q]? = some (.lst (ps.map fun q => .lst (encP q))) ∧ lo ≤ L ∧ lo ≤ Q ∧ (Q < L ∨ L + p.length < Q)
end Dl
namespace Dl
open PySem L2
theorem set_same {S : Store} {c : Nat} {o : Ob} (h : S[c]? = some o) : S.set c o = S := by
  obtain ⟨hl, e⟩ := List.getElem?_eq_some_iff.mp h
  subst e
  exact List.set_getElem_self hl
/-- all objects stay -/
def Pre (S S' : Store) : Prop := ∀ (i : Nat) (o : Ob), S[i]? = some o → S'[i]? = some o
theorem Pre.app (S M : Store) : Pre S (S ++ M) := fun _ _ h => get_app h
theorem Pre.stays {S S' : Store} (h : Pre S S') : Stays S S' := fun i o e => h i _ e
theorem ShAt.pre {S S' : Store} {n lo : Nat} {p : Page} {y : Sty} {ps : List Page} (h : ShAt S n p y ps lo) (s : Pre S S') : ShAt S' n p y ps lo := by
  obtain ⟨L, Q, h1, h2, h3, h4⟩ := h
  exact ⟨L, Q, s _ _ h1, h2.stays s.stays, s _ _ h3, h4⟩
theorem set_keep {S : Store} {c k : Nat} {o o' : Ob} (hne : k ≠ c) (h : S[k]? = some o) : (S.set c o')[k]? = some o := by
  rw [List.getElem?_set_ne (Ne.symm hne)]; exact h
theorem Lays.set {S : Store} {L c : Nat} {p : Page} {f : Nat → Nat → Int} {o : Ob} (h : Lays S L p f) (hc : c < L) : Lays (S.set c o) L p f :=
  ⟨set_keep (by omega) h.1, fun k hk => set_keep (by omega) (h.2 k hk)⟩
/-- a cursor at a place of a sheet -/
structure Cu (S : Store) (c n : Nat) (p : Page) (y : Sty) (L Q : Nat) (t : Pos3) : Prop where
  cu : S[c]? = some (.ins 14 (cuFs n t))
  sh : S[n]? = some (.ins 13 (shFs p y L Q))
  la : Lays S L p (bAt p y)
  pa : S[Q]? = some (.lst [])
  va : Valid p t
  cn : c < n
  nL : n < L
  LQ : L + p.length < Q
def mv (S : Store) (c n : Nat) (t : Pos3) : Store := S.set c (.ins 14 (cuFs n t))
section
variable {S : Store} {c n L Q : Nat} {p : Page} {y : Sty} {t : Pos3}
theorem Cu.pre {S' : Store} (h : Cu S c n p y L Q t) (s : Pre S S') : Cu S' c n p y L Q t := ⟨s _ _ h.cu, s _ _ h.sh, h.la.stays s.stays, s _ _ h.pa, h.va, h.cn, h.nL, h.LQ⟩
theorem Cu.same (h : Cu S c n p y L Q t) : mv S c n t = S := set_same h.cu
end
end Dl
namespace Dl
open PySem L2
end Dl
namespace Dl
open PySem L2
end Dl
namespace Dl
open PySem L2
def pagesD (ps : List Page) : List D := ps.map fun q => .lst (encP q)
/-- a sheet in the store -/
structure Sht (S : Store) (n : Nat) (p : Page) (y : Sty) (L Q : Nat) (ps : List Page) : Prop where
  sh : S[n]? = some (.ins 13 (shFs p y L Q))
  la : Lays S L p (bAt p y)
  pa : S[Q]? = some (.lst (pagesD ps))
  nL : n < L
  nQ : n < Q
  LQ : Q < L ∨ L + p.length < Q
end Dl
namespace Dl
open PySem L2
/-- a piece of l, from k on up to j, is m -/
def spl {A : Type} (l : List A) (k : Nat) (m : List A) (j : Nat) : List A := l.take k ++ m ++ l.drop j
def rowAt (p : Page) (k : Nat) : Row := p.getD k []
theorem okRow_mk {r : Row} (h1 : 1 ≤ r.length) (h2 : r.length ≤ 6) (h3 : ∀ c ∈ r, okCell c = true) : okRow r = true := by
  unfold okRow
  simp only [Bool.and_eq_true, decide_eq_true_eq, List.all_eq_true]
  exact ⟨⟨h1, h2⟩, h3⟩
theorem okCell_mk {s : List Nat} (h1 : s.length ≤ 10) (h2 : ∀ c ∈ s, okSign c = true) : okCell s = true := by
  unfold okCell
  simp only [Bool.and_eq_true, decide_eq_true_eq, List.all_eq_true]
  exact ⟨h1, h2⟩
theorem okCell_un {s : List Nat} (h : okCell s = true) : s.length ≤ 10 ∧ ∀ c ∈ s, okSign c = true := by
  unfold okCell at h
  simp only [Bool.and_eq_true, decide_eq_true_eq, List.all_eq_true] at h
  exact h
section
variable {p : Page} (hp : okPage p = true)
include hp
theorem rowAt_ok {k : Nat} (hk : k < p.length) : okRow (rowAt p k) = true ∧ (rowAt p k).length = cellsIn p k ∧ ∀ c ∈ rowAt p k, okCell c = true := by
  have e : rowAt p k = p[k] := by unfold rowAt; simp [hk]
  have o := (okPage_parts hp).2.2 p[k] (List.getElem_mem hk)
  refine ⟨by rw [e]; exact o, rfl, fun c hc => ?_⟩
  rw [e] at hc
  unfold okRow at o
  simp only [Bool.and_eq_true, decide_eq_true_eq, List.all_eq_true] at o
  exact o.2 c hc
end
end Dl
namespace Dl
open PySem L2
theorem eqs (neg : Bool) (st : Store) (a b : List Nat) : eqG neg st (.str a) (.str b) = .ok (.bl (if neg = true then !decide (a = b) else decide (a = b)), st) := by rw [eqG_pl (by simp) (by simp) (by simp) (by simp)]; simp
end Dl
namespace Dl
open PySem L2
end Dl
namespace Dl
open PySem L2
end Dl
namespace Dl
open PySem L2
end Dl
namespace Dl
open PySem L2
end Dl
namespace Dl
open PySem L2
end Dl
namespace Dl
open PySem L2
end Dl
namespace Dl
open PySem L2
end Dl
namespace Dl
open PySem L2
end Dl
namespace Dl
open PySem L2
end Dl
namespace Dl
open PySem L2
end Dl
namespace Dl
open PySem L2
end Dl
namespace Dl
open PySem L2
end Dl
namespace Dl
open PySem L2
def linesL (p : Page) (f : Nat → Nat → Int) : List (List Nat) := (List.range p.length).map (lineR p f)
theorem linesL_enc (p : Page) (f : Nat → Nat → Int) : linesD p f = strsD (linesL p f) := by
  unfold linesD strsD linesL
  rw [List.map_map]; rfl
theorem linesL_len (p : Page) (f : Nat → Nat → Int) : (linesL p f).length = p.length := by simp [linesL]
theorem lineN_sign {p : Page} (hp : okPage p = true) (f : Nat → Nat → Int) {k : Nat} (hk : k < p.length) : ∀ n, n ≤ cellsIn p k → ∀ c ∈ lineN p f k n, okSign c = true
  | 0, _ => fun c hc => by cases hc
  | n + 1, h => fun c hc => by
    have ih := lineN_sign hp f hk n (by omega)
    unfold lineN at hc
    split at hc
    · exact ih c hc
    · rcases List.mem_append.mp hc with hc | hc
      · unfold ljustL at hc
        rcases List.mem_append.mp hc with hc | hc
        · exact ih c hc
        · rw [List.eq_of_mem_replicate hc]; decide
      · exact (okCell_un (cellAt_ok hp hk (by omega))).2 c hc
theorem linesL_ok {p : Page} (hp : okPage p = true) {y : Sty} (hy : y.ok) : ∀ s ∈ linesL p (bAt p y), okLine s = true := fun s hs => by
  unfold linesL at hs
  obtain ⟨k, hk, rfl⟩ := List.mem_map.mp hs
  rw [List.mem_range] at hk
  have h6 := (cellsIn_le hp hk).2
  have l := lineN_len hp hk (f := bAt p y) (fun c hc => bAt_b hp hy hk hc) (cellsIn p k) (Nat.le_refl _)
  simp only [okLine, Bool.and_eq_true, decide_eq_true_eq, List.all_eq_true]
  exact ⟨by unfold lineR; omega, lineN_sign hp _ hk _ (Nat.le_refl _)⟩
end Dl
namespace Dl
open PySem L2
theorem Sht.app {S M : Store} {n L Q : Nat} {p : Page} {y : Sty} {ps : List Page} (h : Sht S n p y L Q ps) : Sht (S ++ M) n p y L Q ps := ⟨get_app h.sh, ⟨get_app h.la.1, fun k hk => get_app (h.la.2 k hk)⟩, get_app h.pa, h.nL, h.nQ, h.LQ⟩
end Dl
namespace Dl
open PySem L2
/-- what is shown -/
theorem shown22 {p : Page} (hp : okPage p = true) {y : Sty} (hy : y.ok) {S : Store} {d : D} {w : List (Nat × List D)} (hd : listOf S d = some (encP p, w)) :
    ∃ M, m_shown [d, y.enc] S = .ok (.ref (S.length + M.length), S ++ M ++ [.lst (strsD (linesL p (bAt p y)))]) := by
  rw [← linesL_enc]
  exact shown_ok hp hy hd
end Dl
namespace Dl
open PySem L2
/-- is_stops: 3 slots, 1 parameters -/
def d_is_stops (m_is_number : FV) : SV := sCons (sIf (tOrD (tNotD (tv (eIs "list" (eV 0)))) (tv (eOp (eqG true) (eSl false (eV 0) (poNone) (poSome (eC (.int 1)))) (eLst false (aCons (eC (.int 0)) (aNil)))))) (sRet (eC (.bl false))) (sNext)) (sCons (sIf (tv (eOp (eqG true) (eLc false (iSeq (eV 0)) [1] (.one 1) (tNotD (tv (eCall 3 m_is_number (aCons (eV 1) (aCons (eC (.int 0)) (aCons (eC (.int 200)) (aNil))))))) (eV 1)) (eLst false (aNil)))) (sRet (eC (.bl false))) (sNext)) (sRet (eOp (eqG false) (eLc false (iR1 (aCons (eOp subG (eB lenG (aCons (eV 0) (aNil))) (eC (.int 1))) (aNil))) [2] (.one 2) (tv (eOp gtG (eOp ixG (eV 0) (eV 2)) (eOp ixG (eV 0) (eOp (addG false) (eV 2) (eC (.int 1)))))) (eV 2)) (eLst false (aNil)))))
end Dl
namespace Dl
open PySem L2
theorem cut_ft {A : Type} (xs : List A) (a b : Nat) : cutD xs (some (a : Int)) (some (b : Int)) = (xs.drop a).take (b - a) := by
  unfold cutD
  rw [HT.sIx_nat, HT.sIx_nat]
  by_cases h : a ≤ xs.length
  · rw [Nat.min_eq_left h]
    by_cases h2 : b ≤ xs.length
    · rw [Nat.min_eq_left h2]
    · rw [Nat.min_eq_right (by omega), List.take_of_length_le (by simp), List.take_of_length_le (by rw [List.length_drop]; omega)]
  · rw [Nat.min_eq_right (by omega : xs.length ≤ a), List.drop_of_length_le (Nat.le_refl _), List.drop_of_length_le (by omega)]
    simp
def natsD (ns : List Nat) : List D := ns.map fun (n : Nat) => D.int (n : Int)
structure GdSt (ns : List Nat) : Prop where
  hd : ns[0]? = some 0
  up : ns.Pairwise (· ≤ ·)
  le : ∀ n ∈ ns, n ≤ 200
theorem GdSt.pos {ns : List Nat} (h : GdSt ns) : 1 ≤ ns.length := by
  have := (List.getElem?_eq_some_iff.mp h.hd).1
  omega
@[simp] theorem natsD_len (ns : List Nat) : (natsD ns).length = ns.length := by simp [natsD]
theorem natsD_get {ns : List Nat} {i n : Nat} (h : ns[i]? = some n) : (natsD ns)[i]? = some (.int n) := by unfold natsD; rw [List.getElem?_map, h]; rfl
def m_is_stops : FV := funD 3 (d_is_stops m_is_number)
theorem ne_ints {st : Store} {a b : List D} (h1 : D.pls a = true) (h2 : D.pls b = true) (k1 : D.dps a ≤ 39) (k2 : D.dps b ≤ 39) : eqG true st (.lst a) (.lst b) = .ok (.bl (!decide (a = b)), st) := by
  rw [eqG_pl (by simpa using h1) (by simpa using h2) (by simp; omega) (by simp; omega)]
  simp
end Dl
namespace Dl
open PySem L2
/-- the cell of a line from the k-th left end on -/
def cellL (line : List Nat) (ns : List Nat) (k : Nat) : List Nat := match ns[k]?, ns[k + 1]? with
  | some a, some b => stripL [32] ((line.drop a).take (b - a))
  | some a, none => stripL [32] (line.drop a)
  | _, _ => []
def rowL (line : List Nat) (ns : List Nat) : List (List Nat) := (List.range ns.length).map (cellL line ns)
end Dl
namespace Dl
open PySem L2
theorem rowL_len (line ns : List Nat) : (rowL line ns).length = ns.length := by unfold rowL; simp
/-- the told rows -/
def rowsL (ls nss : List (List Nat)) : List D := (ls.zip nss).map fun p => .tup (strsD (rowL p.1 p.2))
def stopsD (nss : List (List Nat)) : List D := nss.map fun ns => .lst (natsD ns)
@[simp] theorem stopsD_len (nss : List (List Nat)) : (stopsD nss).length = nss.length := by simp [stopsD]
@[simp] theorem strs6_len (nss : List (List Nat)) : (strsD nss).length = nss.length := by simp [strsD]
theorem strs6_get {nss : List (List Nat)} {i : Nat} {ns : List Nat} (h : nss[i]? = some ns) : (strsD nss)[i]? = some (.str ns) := by unfold strsD; rw [List.getElem?_map, h]; rfl
end Dl
namespace Dl
open PySem L2
theorem strs6_lines {ls : List (List Nat)} (h : ∀ s ∈ ls, okLine s = true) : ∀ x ∈ strsD ls, lineD x = true := fun x hx => by
  obtain ⟨s, hs, rfl⟩ := List.mem_map.mp hx
  exact h s hs
theorem zipUp_get : ∀ {as bs : List D} {i : Nat} {e : D}, (zipUp as bs)[i]? = some e → ∃ a b, as[i]? = some a ∧ bs[i]? = some b ∧ e = .tup [a, b]
  | [], _, _, _, h => by simp [zipUp] at h
  | _ :: _, [], _, _, h => by simp [zipUp] at h
  | a :: as, b :: bs, 0, e, h => by simp [zipUp] at h; exact ⟨a, b, rfl, rfl, h.symm⟩
  | a :: as, b :: bs, i + 1, e, h => by
    simp [zipUp] at h
    have h' : (zipUp as bs)[i]? = some e := by simpa [zipUp] using h
    obtain ⟨x, y, h1, h2, h3⟩ := zipUp_get h'
    exact ⟨x, y, by simpa using h1, by simpa using h2, h3⟩
end Dl
namespace Dl
open PySem L2
/-- guessed_k08: 5 slots, 1 parameters -/
def d_guessed_k08 (m_need_lines : FV) : SV := sCons (sExpr (eCall 1 m_need_lines (aCons (eV 0) (aNil)))) (sCons (sAsg (eLst true (aNil)) (gN 1)) (sCons (sFor (iSeq (eV 0)) (gN 2) (sCons (sAsg (eLc false (iSeq (eMt "str" (splitG false) (eMt "str" (stripG) (eV 2) (aCons (eC (.str [32])) (aNil))) (aCons (eC (.str [32, 32])) (aNil)))) [4] (.one 4) (tv (eOp (eqG true) (eV 4) (eC (.str [])))) (eMt "str" (stripG) (eV 4) (aCons (eC (.str [32])) (aNil)))) (gN 3)) (sExpr (eMt "list" (appendG) (eV 1) (aCons (eIf (tv (eOp (eqG true) (eV 3) (eLst false (aNil)))) (eB tupG (aCons (eV 3) (aNil))) (eTup (aCons (eC (.str [])) (aNil)))) (aNil)))))) (sRet (eV 1))))
end Dl
namespace Dl
open PySem L2
abbrev PSt := List (List Nat) × List Nat × Nat
def pstep (x : PSt) (c : Nat) : PSt := if c = 32 then (x.1, x.2.1, x.2.2 + 1) else
  if x.2.1 ≠ [] ∧ 1 < x.2.2 then (x.1 ++ [x.2.1], [c], 0) else (x.1, x.2.1 ++ List.replicate (if x.2.1 = [] then 0 else x.2.2) 32 ++ [c], 0)
def partsL (s : List Nat) : List (List Nat) := (s.foldl pstep ([], [], 0)).1 ++ [(s.foldl pstep ([], [], 0)).2.1]
def pieces8 (s : List Nat) : List (List Nat) := ((splitL [32, 32] (stripL [32] s)).filter fun t => decide (t ≠ [])).map (stripL [32])
def guessL (s : List Nat) : List (List Nat) := if pieces8 s = [] then [[]] else pieces8 s
def tidy (l : List (List Nat)) : List (List Nat) := (l.filter fun t => decide (t ≠ [])).map (stripL [32])
theorem pstep_b (x : PSt) : pstep x 32 = (x.1, x.2.1, x.2.2 + 1) := rfl
theorem pstep_c (x : PSt) {c : Nat} (h : c ≠ 32) : pstep x c = if x.2.1 ≠ [] ∧ 1 < x.2.2 then (x.1 ++ [x.2.1], [c], 0) else (x.1, x.2.1 ++ List.replicate (if x.2.1 = [] then 0 else x.2.2) 32 ++ [c], 0) := if_neg h
theorem fold_b (f : List (List Nat)) (cell : List Nat) : ∀ (a b : Nat), (List.replicate a 32).foldl pstep (f, cell, b) = (f, cell, b + a)
  | 0, b => rfl
  | a + 1, b => by
    rw [List.replicate_succ, List.foldl_cons, pstep_b, fold_b f cell a (b + 1)]
    simp; omega
theorem pre2 {c d : Nat} {r : List Nat} (h : ¬(c = 32 ∧ d = 32)) : TL.pre [32, 32] (c :: d :: r) = false := by
  unfold TL.pre
  simp only [List.length_cons, List.length_nil, List.take_succ_cons, List.take_zero]
  by_cases h1 : c = 32
  · by_cases h2 : d = 32
    · exact absurd ⟨h1, h2⟩ h
    · simp [h2]
  · simp [h1]
theorem pre1 {c : Nat} : TL.pre [32, 32] [c] = false := by
  unfold TL.pre
  simp
theorem pre0 {c : Nat} {r : List Nat} (h : c ≠ 32) : TL.pre [32, 32] (c :: r) = false := by
  cases r with
  | nil => exact pre1
  | cons d r => exact pre2 fun z => h z.1
theorem pre_yes (r : List Nat) : TL.pre [32, 32] (32 :: 32 :: r) = true := by
  unfold TL.pre
  simp
theorem spl2 (acc r : List Nat) : TL.spl [32, 32] 0 acc (32 :: 32 :: r) = acc :: TL.spl [32, 32] 0 [] r := by
  rw [TL.spl_hit (pre_yes r), TL.spl_pass]
  rfl
/-- what acc holds: cell, behind at most one blank -/
structure Acc (acc cell : List Nat) : Prop where
  ne : cell ≠ []
  ba : Bare cell
  eq : ∃ a, acc = List.replicate a 32 ++ cell
theorem Acc.strip {acc cell : List Nat} (h : Acc acc cell) : stripL [32] acc = cell := by
  obtain ⟨a, rfl⟩ := h.eq
  have := strip_eq h.ba a 0
  simpa using this
theorem Acc.ne' {acc cell : List Nat} (h : Acc acc cell) : acc ≠ [] := by
  obtain ⟨a, rfl⟩ := h.eq
  intro z
  exact h.ne (List.append_eq_nil_iff.mp z).2
theorem Acc.snoc {acc cell m : List Nat} {c : Nat} (h : Acc acc cell) (hc : c ≠ 32) : Acc (acc ++ (m ++ [c])) (cell ++ (m ++ [c])) := by
  obtain ⟨a, rfl⟩ := h.eq
  refine ⟨by simp, ⟨?_, ?_⟩, a, by simp⟩
  · have := h.ba.hd
    cases q : cell with
    | nil => exact absurd q h.ne
    | cons d r => rw [q] at this; simpa using this
  · rw [← List.append_assoc, List.getLast?_append]
    simpa using hc
theorem Acc.one {m : Nat} {c : Nat} (hc : c ≠ 32) : Acc (List.replicate m 32 ++ [c]) [c] := ⟨by simp, ⟨by simpa using hc, by simpa using hc⟩, m, rfl⟩
theorem tidy_cons {acc cell : List Nat} (h : Acc acc cell) (l : List (List Nat)) : tidy (acc :: l) = cell :: tidy l := by
  unfold tidy
  rw [List.filter_cons_of_pos (by simpa using h.ne'), List.map_cons, h.strip]
theorem tidy_nil (l : List (List Nat)) : tidy ([] :: l) = tidy l := by
  unfold tidy
  rw [List.filter_cons_of_neg (by simp)]
theorem last_cons {c d : Nat} {r : List Nat} (h : (c :: d :: r).getLast? ≠ some 32) : (d :: r).getLast? ≠ some 32 := by simpa using h
theorem main8 : ∀ (n : Nat) (r : List Nat), r.length ≤ n → r.getLast? ≠ some 32 →
    (∀ (f : List (List Nat)) (acc cell : List Nat), Acc acc cell → f ++ tidy (TL.spl [32, 32] 0 acc r) = (r.foldl pstep (f, cell, 0)).1 ++ [(r.foldl pstep (f, cell, 0)).2.1]) ∧
    (∀ (f : List (List Nat)) (cell : List Nat) (b : Nat), cell ≠ [] → 2 ≤ b → r ≠ [] → f ++ ([cell] ++ tidy (TL.spl [32, 32] 0 [] r)) = (r.foldl pstep (f, cell, b)).1 ++ [(r.foldl pstep (f, cell, b)).2.1])
  | n, [], _, _ => ⟨fun f acc cell h => by rw [TL.spl_nil, tidy_cons h]; rfl, fun _ _ _ _ _ z => absurd rfl z⟩
  | 0, _ :: _, h, _ => by simp at h
  | n + 1, [c], _, hl => by
    have hc : c ≠ 32 := by simpa using hl
    refine ⟨fun f acc cell h => ?_, fun f cell b hn hb _ => ?_⟩
    · rw [TL.spl_miss pre1, TL.spl_nil]
      have := h.snoc (m := []) hc
      simp only [List.nil_append] at this
      rw [tidy_cons this]
      show _ = (pstep (f, cell, 0) c).1 ++ [(pstep (f, cell, 0) c).2.1]
      rw [pstep_c _ hc, if_neg (by simp)]
      simp [tidy]
    · rw [TL.spl_miss pre1, TL.spl_nil]
      have := Acc.one (m := 0) hc
      rw [show ([] : List Nat) ++ [c] = List.replicate 0 32 ++ [c] from rfl, tidy_cons this]
      show _ = (pstep (f, cell, b) c).1 ++ [(pstep (f, cell, b) c).2.1]
      rw [pstep_c _ hc, if_pos ⟨hn, by show 1 < b; omega⟩]
      simp [tidy]
  | n + 1, c :: d :: r, h, hl => by
    have hl1 := last_cons hl
    simp only [List.length_cons] at h
    by_cases hc : c = 32
    · subst hc
      by_cases hd : d = 32
      · subst hd
        have hr : r ≠ [] := fun z => by subst z; simp at hl
        have hl2 : r.getLast? ≠ some 32 := by
          cases r with
          | nil => exact absurd rfl hr
          | cons e r => exact last_cons hl1
        obtain ⟨_, ih⟩ := main8 n r (by omega) hl2
        refine ⟨fun f acc cell k => ?_, fun f cell b hn hb _ => ?_⟩
        · rw [spl2, tidy_cons k, List.foldl_cons, List.foldl_cons, pstep_b, pstep_b]
          exact ih f cell 2 k.ne (by omega) hr
        · rw [spl2, tidy_nil, List.foldl_cons, List.foldl_cons, pstep_b, pstep_b]
          exact ih f cell (b + 1 + 1) hn (by omega) hr
      · have hl2 : r.getLast? ≠ some 32 := by
          cases r with
          | nil => simp
          | cons e r => exact last_cons hl1
        obtain ⟨ih, _⟩ := main8 n r (by omega) hl2
        refine ⟨fun f acc cell k => ?_, fun f cell b hn hb _ => ?_⟩
        · rw [TL.spl_miss (pre2 fun z => hd z.2), TL.spl_miss (pre0 hd), List.foldl_cons, List.foldl_cons, pstep_b, pstep_c _ hd, if_neg (by simp)]
          have := ih f (acc ++ [32] ++ [d]) (cell ++ [32] ++ [d]) (by simpa using k.snoc (m := [32]) hd)
          rw [this]
          simp [k.ne]
        · rw [TL.spl_miss (pre2 fun z => hd z.2), TL.spl_miss (pre0 hd), List.foldl_cons, List.foldl_cons, pstep_b, pstep_c _ hd, if_pos ⟨hn, by show 1 < b + 1; omega⟩]
          have := ih (f ++ [cell]) ([] ++ [32] ++ [d]) [d] (Acc.one (m := 1) hd)
          rw [← this]; simp
    · obtain ⟨ih, _⟩ := main8 n (d :: r) (by simp; omega) hl1
      refine ⟨fun f acc cell k => ?_, fun f cell b hn hb _ => ?_⟩
      · rw [TL.spl_miss (pre0 hc), List.foldl_cons, pstep_c _ hc, if_neg (by simp)]
        have := ih f (acc ++ [c]) (cell ++ [c]) (by simpa using k.snoc (m := []) hc)
        rw [this]
        simp
      · rw [TL.spl_miss (pre0 hc), List.foldl_cons, pstep_c _ hc, if_pos ⟨hn, by show 1 < b; omega⟩]
        have := ih (f ++ [cell]) ([] ++ [c]) [c] (Acc.one (m := 0) hc)
        rw [← this]; simp
theorem guess_parts (s : List Nat) : guessL s = partsL s := by
  obtain ⟨a, b, e, hB⟩ := strip_dec s
  generalize hT : stripL [32] s = T at e hB
  have hp : pieces8 s = tidy (TL.spl [32, 32] 0 [] T) := by unfold pieces8; rw [hT]; rfl
  have hf : ∀ x : PSt, x = T.foldl pstep ([], [], a) → partsL s = x.1 ++ [x.2.1] := fun x hx => by
    unfold partsL
    rw [e, List.foldl_append, fold_b, List.foldl_append]
    rw [show (0 + a) = a by omega, ← hx]
    obtain ⟨x1, x2, x3⟩ := x
    rw [fold_b]
  rw [hf _ rfl]
  unfold guessL
  rw [hp]
  cases T with
  | nil => rfl
  | cons c r =>
    have hc : c ≠ 32 := by simpa using hB.hd
    have hl : r.getLast? ≠ some 32 := by
      cases r with
      | nil => simp
      | cons d r => exact last_cons hB.la
    obtain ⟨ih, _⟩ := main8 r.length r (Nat.le_refl _) hl
    have := ih [] ([] ++ [c]) [c] (Acc.one (m := 0) hc)
    rw [List.nil_append] at this
    rw [TL.spl_miss (pre0 hc), this, List.foldl_cons, pstep_c _ hc, if_neg (by simp)]
    simp
end Dl
namespace Dl
open PySem L2
/-- a cell grown by a sign, and the blanks ahead -/
def grow (cell : List Nat) (b c : Nat) : List Nat := cell ++ List.replicate (if cell = [] then 0 else b) 32 ++ [c]
end Dl
namespace Dl
open PySem L2
theorem spl_leN (S : List Nat) : ∀ (n : Nat) (s : List Nat) (acc : List Nat), s.length ≤ n → (TL.spl S 0 acc s).length ≤ s.length + 1
  | _, [], acc, _ => by rw [TL.spl_nil]; simp
  | 0, c :: s, acc, h => by simp at h
  | n + 1, c :: s, acc, h => by
    simp only [List.length_cons] at h
    by_cases hp : TL.pre S (c :: s) = true
    · rw [TL.spl_hit hp, TL.spl_pass]
      have := spl_leN S n (s.drop (S.length - 1)) [] (by rw [List.length_drop]; omega)
      rw [List.length_drop] at this
      simp only [List.length_cons]; omega
    · rw [TL.spl_miss (by simpa using hp)]
      have := spl_leN S n s (acc ++ [c]) (by omega)
      simp only [List.length_cons]; omega
theorem spl_le (S s acc : List Nat) : (TL.spl S 0 acc s).length ≤ s.length + 1 := spl_leN S s.length s acc (Nat.le_refl _)
def m_guessed_k08 : FV := funD 5 (d_guessed_k08 m_need_lines)
def guessD (ls : List (List Nat)) : List D := ls.map fun s => .tup (strsD (guessL s))
theorem strip_len (t s : List Nat) : (stripL t s).length ≤ s.length := Nat.le_trans (rcut_len _ _) (lcut_len _ _)
theorem eq_strs8 {neg : Bool} {st : Store} (a : List (List Nat)) : eqG neg st (.lst (a.map D.str)) (.lst []) = .ok (.bl (if neg = true then !decide (a = []) else decide (a = [])), st) := by
  rw [eqG_pl (by simp) rfl (by have := dps_strs a; simp; omega) (by simp)]
  simp
theorem eq_nn {neg : Bool} {st : Store} : eqG neg st (.lst []) (.lst []) = .ok (.bl (if neg = true then false else true), st) := by
  have := eq_strs8 (neg := neg) (st := st) []
  simpa using this
theorem guessed_ok {ls : List (List Nat)} {d : D} {w : List (Nat × List D)} {st : Store} (h : listOf st d = some (strsD ls, w)) (hl : ls.length ≤ 30) (ha : ∀ s ∈ ls, okLine s = true) : m_guessed_k08 [d] st = .ok (.ref st.length, st ++ [.lst (guessD ls)]) := by
  have nl := need_lines_ok h (by unfold strsD; rw [List.length_map]; exact hl) (fun x hx => by
    obtain ⟨s, hs, rfl⟩ := List.mem_map.mp hx
    exact ha s hs)
  have hst : ∀ x, listOf (st ++ [x]) d = some (strsD ls, w) := fun x => listOf_stays (Stays.app _ _) h
  unfold m_guessed_k08 funD d_guessed_k08
  simp [nl, items_list (hst _)]
  generalize hf : forGo _ _ _ _ _ _ = r
  obtain ⟨e, s, rfl, rfl, a2, a3, a4, rfl⟩ := for_at hf (fun i env st' => st' = st ++ [.lst (guessD (ls.take i))] ∧ ∃ a2 a3 a4, env = [some d, some (.ref st.length), a2, a3, a4]) ⟨by simp [guessD], _, _, _, rfl⟩ (fun i env st' _ hI => by rw [hI.1]; exact still_list (hst _)) (fun i x env st' hi hI => by
    obtain ⟨rfl, a2, a3, a4, rfl⟩ := hI
    unfold strsD at hi
    rw [List.getElem?_map] at hi
    cases q : ls[i]? with
    | none => rw [q] at hi; cases hi
    | some s =>
      rw [q] at hi
      cases hi
      have hs := ha s (List.mem_of_getElem? q)
      have hlen := (okLine_parts hs).1
      have hil := (List.getElem?_eq_some_iff.mp q).1
      have l1 := spl_le [32, 32] (stripL [32] s) []
      have l2 := strip_len [32] s
      have l3 : (splitL [32, 32] (stripL [32] s)).length ≤ LIM := le_LIM (by unfold splitL; omega)
      simp [tyM, stripG, splitG, itemsOf, l3]
      rw [lc_pure (st := st ++ [.lst (guessD (ls.take i))]) rfl (fun d => match d with | .str t => decide (t ≠ []) | _ => false) (fun d => match d with | .str t => .str (stripL [32] t) | d => d) ((splitL [32, 32] (stripL [32] s)).map D.str) [] (fun d hd => by
        obtain ⟨t, _, rfl⟩ := List.mem_map.mp hd
        refine ⟨_, rfl, ?_, fun _ => ?_⟩
        · simp
        · simp [tyM, stripG])]
      have e : (([] : List D) ++ (((splitL [32, 32] (stripL [32] s)).map D.str).filter (fun d => match d with | .str t => decide (t ≠ []) | _ => false)).map (fun d => match d with | .str t => .str (stripL [32] t) | d => d)) = (pieces8 s).map D.str := by
        rw [List.nil_append, List.filter_map, List.map_map, pieces8, List.map_map]
        rfl
      simp only [R.bind_ok, e]
      have y1 : min i ls.length < LIM := lt_LIM (by omega)
      have e3 : guessD (ls.take (i + 1)) = guessD (ls.take i) ++ [.tup (strsD (guessL s))] := by
        rw [take_snoc q, guessD, List.map_append]; rfl
      have e4 : (guessD (ls.take i)).length = min i ls.length := by simp [guessD]
      by_cases hp : pieces8 s = []
      · have e5 : guessL s = [[]] := by unfold guessL; rw [if_pos hp]
        rw [e3, e5]
        simp [eq_nn, hp, tyM, appendG, e4, y1, strsD]
      · have e5 : guessL s = pieces8 s := by unfold guessL; rw [if_neg hp]
        rw [e3, e5]
        simp [eq_strs8, hp, tyM, appendG, e4, y1, strsD, tupG, lstOf])
  have e6 : (strsD ls).length = ls.length := by unfold strsD; simp
  simp [e6]
end Dl
namespace Dl
open PySem L2
end Dl
namespace Dl
open PySem L2
/-- a list of lists of numbers, in the store or not -/
def Grid (S : Store) (d : D) (p : Page) (f : Nat → Nat → Int) : Prop := ∃ L w, listOf S d = some (L, w) ∧ L.length = p.length ∧ ∀ k, k < p.length → ∃ x w', L[k]? = some x ∧ listOf S x = some (rowI p f k, w')
theorem Grid.row {S : Store} {d : D} {p : Page} {f : Nat → Nat → Int} (h : Grid S d p f) {k : Nat} (hk : k < p.length) : ∃ x, ixG S d (.int k) = .ok (x, S) ∧ (∃ w', listOf S x = some (rowI p f k, w')) ∧ ∀ c, c < cellsIn p k → ixG S x (.int c) = .ok (.int (f k c), S) := by
  obtain ⟨L, w, h1, h2, h3⟩ := h
  obtain ⟨x, w', e1, e2⟩ := h3 k hk
  refine ⟨x, ?_, ⟨w', e2⟩, fun c hc => ?_⟩
  · rw [ix_list h1, atI_nat, e1]; rfl
  · rw [ix_list e2, atI_nat, rowI_at f hc]; rfl
theorem Grid.len {S : Store} {d : D} {p : Page} {f : Nat → Nat → Int} (h : Grid S d p f) : lenG S [d] = .ok (.int p.length, S) := by
  obtain ⟨L, w, h1, h2, h3⟩ := h
  rw [len_list h1, h2]
end Dl
namespace Dl
open PySem L2
end Dl
namespace Dl
open PySem L2
end Dl
namespace Dl
open PySem L2
/-- how many steps lead from some rows to others -/
def nd : Page → Page → Nat
  | [], ys => ys.length
  | x :: xs, [] => xs.length + 1
  | x :: xs, y :: ys => if x = y then nd xs ys else 1 + min (nd xs ys) (min (nd (x :: xs) ys) (nd xs (y :: ys)))
termination_by xs ys => xs.length + ys.length
end Dl
namespace Dl
open PySem L2
end Dl
namespace Dl
open PySem L2
@[simp] theorem eq_rowR {neg : Bool} {S : Store} (x y : Row) : eqG neg S (encR x) (encR y) = .ok (.bl (if neg = true then !decide (x = y) else decide (x = y)), S) := by
  rw [eqG_pl (pl_encR x) (pl_encR y) (by have := dp_encR x; omega) (by have := dp_encR y; omega)]
  have : (encR x = encR y) ↔ (x = y) := ⟨encR_inj, fun h => by rw [h]⟩
  simp only [decide_eq_decide.mpr this]
/-- downwards -/
def dnL (i n : Int) : List D := (List.range (i - n).toNat).map (fun (k : Nat) => D.int (i + (k : Int) * -1))
@[simp] theorem r_iR3 (g : AV) (env : Env) (st : Store) : iR3 g env st = (g env st).bind fun a => match a.1 with
  | [.int i, .int n, .int c] => if (-1000000 ≤ i ∧ i ≤ 1000000) ∧ (-1000000 ≤ n ∧ n ≤ 1000000) ∧ c = -1 then .ok ((dnL i n, []), a.2) else .bad
  | _ => .bad := (rfl)
end Dl
namespace Dl
open PySem L2
end Dl
namespace Dl
open PySem L2
end Dl
namespace Dl
open PySem L2
end Dl
namespace Dl
open PySem L2
end Dl
namespace Dl
open PySem L2
end Dl
namespace Dl
open PySem L2
end Dl
namespace Dl
open PySem L2
end Dl
namespace Dl
open PySem L2
end Dl
namespace Dl
open PySem L2
end Dl
namespace Dl
open PySem L2
end Dl
namespace Dl
open PySem L2
end Dl
namespace Dl
open PySem L2
end Dl
namespace Dl
open PySem L2
end Dl
namespace Dl
open PySem L2
end Dl
namespace Dl
open PySem L2
end Dl
namespace Dl
open PySem L2
end Dl
namespace Dl
open PySem L2
def PgAt (Z : Store) (j : Nat) (d : D) (q : Page) : Prop := d = .lst (encP q) ∨ ∃ i, d = .ref (i + 2) ∧ i < j ∧ Z[i]? = some (.lst (encP q))
theorem PgAt.list {Z : Store} {j : Nat} {d : D} {q : Page} (h : PgAt Z j d q) (b : Box) : ∃ w, listOf (Bx b Z) d = some (encP q, w) := by
  rcases h with rfl | ⟨i, rfl, _, e⟩
  · exact ⟨[], rfl⟩
  · exact ⟨[(i + 2, encP q)], by simp only [listOf, Bx_get, e]⟩
theorem PgAt.keep {Z Z' : Store} {j : Nat} {d : D} {q : Page} (h : PgAt Z j d q) (k : ∀ i ob, i < j → Z[i]? = some ob → Z'[i]? = some ob) : PgAt Z' j d q := by
  rcases h with rfl | ⟨i, rfl, hi, e⟩
  · exact .inl rfl
  · exact .inr ⟨i, rfl, hi, k i _ hi e⟩
end Dl
namespace Dl
open PySem L2
end Dl
namespace Dl
open PySem L2
end Dl
namespace Dl
open PySem L2
end Dl
namespace Dl
open PySem L2
end Dl
namespace Dl
open PySem L2
end Dl
namespace Dl
open PySem L2
end Dl
namespace Dl
open PySem L2
end Dl
namespace Dl
open PySem L2
inductive Ed : Page → Page → Nat → Prop
  | nil : Ed [] [] 0
  | keep (x : Row) {xs ys n} : Ed xs ys n → Ed (x :: xs) (x :: ys) n
  | chg (x y : Row) {xs ys n} : Ed xs ys n → Ed (x :: xs) (y :: ys) (n + 1)
  | ins (y : Row) {xs ys n} : Ed xs ys n → Ed xs (y :: ys) (n + 1)
  | del (x : Row) {xs ys n} : Ed xs ys n → Ed (x :: xs) ys (n + 1)
theorem Ed.put : ∀ ys : Page, Ed [] ys ys.length
  | [] => .nil
  | y :: ys => .ins y (Ed.put ys)
theorem Ed.take : ∀ xs : Page, Ed xs [] xs.length
  | [] => .nil
  | x :: xs => .del x (Ed.take xs)
end Dl
namespace Dl
open PySem L2
end Dl
namespace Dl
open PySem L2
end Dl
namespace Dl
open PySem L2
end Dl
namespace Dl
open PySem L2
end Dl
namespace Dl
open PySem L2
/-- where a cursor stands then -/
inductive Way where
  | l | r | u | d
def Way.str : Way → D
  | .l => .str [108, 101, 102, 116]
  | .r => .str [114, 105, 103, 104, 116]
  | .u => .str [117, 112]
  | .d => .str [100, 111, 119, 110]
end Dl
namespace Dl
open PySem L2
section
variable {c n L Q : Nat} {p : Page} {y : Sty} {t : Pos3}
/-- what the law's loops keep -/
structure Kp (c n L Q : Nat) (p : Page) (y : Sty) (b : Box) (Z : Store) (t : Pos3) : Prop where
  cu : Cu (Bx b Z) c n p y L Q t
  pg : (Bx b Z)[2]? = some (.lst (encP p))
  la : Lays (Bx b Z) 3 p (bAt p y)
  c3 : 3 + p.length < c
theorem Kp.app {b : Box} {Z : Store} (h : Kp c n L Q p y b Z t) (M : Store) : Kp c n L Q p y b (Z ++ M) t := by
  have e : Bx b (Z ++ M) = Bx b Z ++ M := by simp
  have P := Pre.app (Bx b Z) M
  rw [← e] at P
  exact ⟨h.cu.pre P, P _ _ h.pg, h.la.stays P.stays, h.c3⟩
end
end Dl
namespace Dl
open PySem L2
/-- need_lines_k07: 3 slots, 1 parameters -/
def d_need_lines_k07 (m_is_line : FV) : SV := sFor (iEn (aCons (eV 0) (aNil))) (gTp 2 (gsCons (gN 1) (gsCons (gN 2) (gsNil)))) (sIf (tOrD (tv (eOp geG (eV 1) (eC (.int 30)))) (tNotD (tv (eCall 1 m_is_line (aCons (eV 2) (aNil)))))) (sBad) (sNext))
/-- guessed: 5 slots, 1 parameters -/
def d_guessed (m_need_lines_k07 : FV) : SV := sCons (sExpr (eCall 1 m_need_lines_k07 (aCons (eV 0) (aNil)))) (sCons (sAsg (eLst true (aNil)) (gN 1)) (sCons (sFor (iSeq (eV 0)) (gN 2) (sCons (sAsg (eLc false (iSeq (eMt "str" (splitG false) (eMt "str" (stripG) (eV 2) (aCons (eC (.str [32])) (aNil))) (aCons (eC (.str [32, 32])) (aNil)))) [4] (.one 4) (tv (eOp (eqG true) (eV 4) (eC (.str [])))) (eMt "str" (stripG) (eV 4) (aCons (eC (.str [32])) (aNil)))) (gN 3)) (sExpr (eMt "list" (appendG) (eV 1) (aCons (eIf (tv (eOp (eqG true) (eV 3) (eLst false (aNil)))) (eB tupG (aCons (eV 3) (aNil))) (eTup (aCons (eC (.str [])) (aNil)))) (aNil)))))) (sRet (eV 1))))
/-- read_back_k07: 8 slots, 2 parameters -/
def d_read_back_k07 (m_need_lines_k07 : FV) (m_is_stops : FV) : SV := sCons (sExpr (eCall 1 m_need_lines_k07 (aCons (eV 0) (aNil)))) (sCons (sFor (iR1 (aCons (eB lenG (aCons (eV 0) (aNil))) (aNil))) (gN 2) (sIf (tOrD (tv (eOp geG (eV 2) (eB lenG (aCons (eV 1) (aNil))))) (tNotD (tv (eCall 1 m_is_stops (aCons (eOp ixG (eV 1) (eV 2)) (aNil)))))) (sBad) (sNext))) (sCons (sIf (tv (eOp (eqG true) (eB lenG (aCons (eV 1) (aNil))) (eB lenG (aCons (eV 0) (aNil))))) (sBad) (sNext)) (sCons (sAsg (eLst true (aNil)) (gN 3)) (sCons (sFor (iZp (aCons (eV 0) (aCons (eV 1) (aNil)))) (gTp 2 (gsCons (gN 4) (gsCons (gN 5) (gsNil)))) (sCons (sAsg (eOp (addG false) (eV 5) (eLst false (aCons (eB maxG (aCons (eB lenG (aCons (eV 4) (aNil))) (aCons (eOp ixG (eV 5) (eNeg (eC (.int 1)))) (aNil)))) (aNil)))) (gN 6)) (sExpr (eMt "list" (appendG) (eV 3) (aCons (eB tupG (aCons (eLc false (iR1 (aCons (eB lenG (aCons (eV 5) (aNil))) (aNil))) [7] (.one 7) (tYesD) (eMt "str" (stripG) (eSl false (eV 4) (poSome (eOp ixG (eV 6) (eV 7))) (poSome (eOp ixG (eV 6) (eOp (addG false) (eV 7) (eC (.int 1)))))) (aCons (eC (.str [32])) (aNil)))) (aNil))) (aNil)))))) (sRet (eV 3))))))
end Dl
namespace Dl
open PySem L2
def m_need_lines_k07 : FV := funD 3 (d_need_lines_k07 m_is_line)
def m_guessed : FV := funD 5 (d_guessed m_need_lines_k07)
def m_read_back_k07 : FV := funD 8 (d_read_back_k07 m_need_lines_k07 m_is_stops)
theorem le_need_lines : LeF m_need_lines_k07 m_need_lines := .fun_ (.for_ (.if_ (.raiseP _ _) (.refl _)))
theorem le_guessed : LeF m_guessed m_guessed_k08 := .fun_ (.cons (.call le_need_lines) (.refl _))
end Dl
namespace Dl
open PySem L2
theorem strip_app (s : List Nat) (m : Nat) : stripL [32] (s ++ List.replicate m 32) = stripL [32] s := by
  obtain ⟨a, b, e, h⟩ := strip_dec s
  generalize stripL [32] s = t at e h
  rw [e, List.append_assoc, List.append_assoc, List.replicate_append_replicate]
  exact strip_eq h a (b + m)
theorem strip_pre (s : List Nat) (m : Nat) : stripL [32] (List.replicate m 32 ++ s) = stripL [32] s := by
  obtain ⟨a, b, e, h⟩ := strip_dec s
  generalize stripL [32] s = t at e h
  rw [e, ← List.append_assoc, List.replicate_append_replicate]
  exact strip_eq h (m + a) b
theorem pad_ext {s t : List Nat} (h : ∀ i, s.getD i 32 = t.getD i 32) (hl : s.length ≤ t.length) : t = s ++ List.replicate (t.length - s.length) 32 := by
  refine List.ext_getElem? fun i => ?_
  by_cases hi : i < s.length
  · rw [List.getElem?_append_left hi]
    have := h i
    simp only [List.getD_eq_getElem?_getD] at this
    rw [List.getElem?_eq_getElem hi, List.getElem?_eq_getElem (by omega)] at *
    simpa using this.symm
  · rw [List.getElem?_append_right (by omega)]
    by_cases hj : i < t.length
    · rw [List.getElem?_replicate, if_pos (by omega), List.getElem?_eq_getElem hj]
      have := h i
      simp only [List.getD_eq_getElem?_getD] at this
      rw [List.getElem?_eq_none (by omega), List.getElem?_eq_getElem hj] at this
      simpa using this.symm
    · rw [List.getElem?_eq_none (by omega), List.getElem?_eq_none (by rw [List.length_replicate]; omega)]
theorem strip_ext {s t : List Nat} (h : ∀ i, s.getD i 32 = t.getD i 32) : stripL [32] s = stripL [32] t := by
  by_cases hl : s.length ≤ t.length
  · rw [pad_ext h hl, strip_app]
  · rw [pad_ext (fun i => (h i).symm) (by omega), strip_app]
theorem getD_app_left {s t : List Nat} {i : Nat} (h : i < s.length) : (s ++ t).getD i 32 = s.getD i 32 := by
  simp only [List.getD_eq_getElem?_getD, List.getElem?_append_left h]
theorem getD_app_right {s t : List Nat} {i : Nat} (h : s.length ≤ i) : (s ++ t).getD i 32 = t.getD (i - s.length) 32 := by
  simp only [List.getD_eq_getElem?_getD, List.getElem?_append_right h]
theorem getD_rep (m i : Nat) : (List.replicate m 32).getD i 32 = 32 := by
  simp only [List.getD_eq_getElem?_getD, List.getElem?_replicate]
  split <;> rfl
theorem getD_out {s : List Nat} {i : Nat} (h : s.length ≤ i) : s.getD i 32 = 32 := by
  simp only [List.getD_eq_getElem?_getD, List.getElem?_eq_none h]; rfl
theorem getD_pad (s : List Nat) (m i : Nat) : (s ++ List.replicate m 32).getD i 32 = s.getD i 32 := by
  by_cases h : i < s.length
  · rw [getD_app_left h]
  · rw [getD_app_right (by omega), getD_rep, getD_out (by omega)]
theorem ljustL_pad (s : List Nat) (i : Int) : ljustL s i = s ++ List.replicate (i.toNat - s.length) 32 := by
  rfl
/-- how a row lies: left ends, begins -/
structure Lies (p : Page) (f : Nat → Nat → Int) (k : Nat) (L F : Nat → Nat) : Prop where
  fe : ∀ c, c < cellsIn p k → f k c = (F c : Int)
  lo : ∀ c, c < cellsIn p k → L c ≤ F c
  hi : ∀ c, c + 1 < cellsIn p k → F c + (cellAt p k c).length ≤ L (c + 1)
theorem Lies.len {p : Page} {f : Nat → Nat → Int} {k : Nat} {L F : Nat → Nat} (h : Lies p f k L F) : ∀ n, n < cellsIn p k → (lineN p f k n).length ≤ L n
  | 0, _ => by simp [lineN]
  | n + 1, hn => by
    have ih := h.len n (by omega)
    have h1 := h.lo n (by omega)
    have h2 := h.hi n hn
    unfold lineN
    split
    · omega
    · rw [List.length_append, ljustL_len, h.fe n (by omega)]
      omega
theorem Lies.mono {p : Page} {f : Nat → Nat → Int} {k : Nat} {L F : Nat → Nat} (h : Lies p f k L F) {c : Nat} : ∀ n, c ≤ n → n < cellsIn p k → L c ≤ L n
  | 0, hc, _ => by rw [Nat.le_zero.mp hc]; exact Nat.le_refl _
  | n + 1, hc, hn => by
    by_cases e : c = n + 1
    · subst e; exact Nat.le_refl _
    · have := h.mono (c := c) n (by omega) (by omega)
      have h1 := h.lo n (by omega)
      have h2 := h.hi n hn
      omega
theorem Lies.sem {p : Page} {f : Nat → Nat → Int} {k : Nat} {L F : Nat → Nat} (h : Lies p f k L F) : ∀ n, n ≤ cellsIn p k → ∀ c, c < n → ∀ i, L c ≤ i → (c + 1 < cellsIn p k → i < L (c + 1)) → (lineN p f k n).getD i 32 = if i < F c then 32 else (cellAt p k c).getD (i - F c) 32
  | 0, _ => fun c hc => by omega
  | n + 1, hn => fun c hc i h1 h2 => by
    have ll := h.len n (by omega)
    have lo := h.lo n (by omega)
    have lj : (ljustL (lineN p f k n) (f k n)).length = F n := by rw [ljustL_len, h.fe n (by omega)]; omega
    by_cases e : c = n
    · subst e
      unfold lineN
      split
      · rename_i z
        rw [z, getD_out (by omega)]
        split <;> rfl
      · by_cases hi : i < F c
        · rw [getD_app_left (by omega), if_pos hi, ljustL_pad, getD_pad, getD_out (by omega)]
        · rw [getD_app_right (by omega), if_neg hi, lj]
    · have hm := h.mono (c := c + 1) n (by omega) (by omega)
      have hi := h2 (by omega)
      have ih := h.sem n (by omega) c (by omega) i h1 h2
      unfold lineN
      split
      · exact ih
      · rw [getD_app_left (by omega), ljustL_pad, getD_pad, ih]
theorem drop_getD (s : List Nat) (a i : Nat) : (s.drop a).getD i 32 = s.getD (a + i) 32 := by
  simp only [List.getD_eq_getElem?_getD, List.getElem?_drop]
theorem take_getD (s : List Nat) (m i : Nat) : (s.take m).getD i 32 = if i < m then s.getD i 32 else 32 := by
  simp only [List.getD_eq_getElem?_getD, List.getElem?_take]
  split <;> rfl
theorem blank_cell (m : Nat) (s : List Nat) (i : Nat) : (List.replicate m 32 ++ s).getD i 32 = if i < m then 32 else s.getD (i - m) 32 := by
  split
  · rename_i h
    rw [getD_app_left (by rw [List.length_replicate]; exact h), getD_rep]
  · rename_i h
    rw [getD_app_right (by rw [List.length_replicate]; omega), List.length_replicate]
/-- what stands between two left ends, without blanks -/
theorem Lies.cell {p : Page} {f : Nat → Nat → Int} {k : Nat} {L F : Nat → Nat} (h : Lies p f k L F) {c : Nat} (hc : c + 1 < cellsIn p k) : stripL [32] (((lineR p f k).drop (L c)).take (L (c + 1) - L c)) = stripL [32] (cellAt p k c) := by
  rw [← strip_pre (cellAt p k c) (F c - L c)]
  refine strip_ext fun i => ?_
  have h1 := h.lo c (by omega)
  have h2 := h.hi c hc
  rw [take_getD, blank_cell]
  split
  · rename_i hi
    rw [drop_getD]
    unfold lineR
    rw [h.sem _ (Nat.le_refl _) c (by omega) (L c + i) (by omega) (fun _ => by omega)]
    by_cases g : i < F c - L c
    · rw [if_pos g, if_pos (by omega)]
    · rw [if_neg g, if_neg (by omega)]; congr 1; omega
  · rw [if_neg (by omega), getD_out (by omega)]
theorem Lies.last {p : Page} {f : Nat → Nat → Int} {k : Nat} {L F : Nat → Nat} (h : Lies p f k L F) {c : Nat} (hc : c + 1 = cellsIn p k) : stripL [32] ((lineR p f k).drop (L c)) = stripL [32] (cellAt p k c) := by
  rw [← strip_pre (cellAt p k c) (F c - L c)]
  refine strip_ext fun i => ?_
  have h1 := h.lo c (by omega)
  rw [blank_cell, drop_getD]
  unfold lineR
  rw [h.sem _ (Nat.le_refl _) c (by omega) (L c + i) (by omega) (fun _ => by omega)]
  by_cases g : i < F c - L c
  · rw [if_pos g, if_pos (by omega)]
  · rw [if_neg g, if_neg (by omega)]; congr 1; omega
theorem fold_word0 (w : List Nat) (hw : ∀ c ∈ w, c ≠ 32) : ∀ (fs : List (List Nat)) (cell : List Nat), w.foldl pstep (fs, cell, 0) = (fs, cell ++ w, 0) := by
  induction w with
  | nil => intro fs cell; simp
  | cons c w ih =>
    intro fs cell
    have hc := hw c (by simp)
    rw [List.foldl_cons, pstep_c _ hc]
    have : ¬ (cell ≠ [] ∧ 1 < 0) := by omega
    simp only [this, if_false]
    rw [ih fun d hd => hw d (by simp [hd])]
    by_cases e : cell = [] <;> simp [e]
theorem fold_word (w : List Nat) (hw : ∀ c ∈ w, c ≠ 32) (h0 : w ≠ []) (fs : List (List Nat)) (cell : List Nat) (b : Nat) (hb : cell = [] ∨ 2 ≤ b) : w.foldl pstep (fs, cell, b) = (if cell = [] then fs else fs ++ [cell], w, 0) := by
  cases w with
  | nil => exact absurd rfl h0
  | cons c w =>
    have hc := hw c (by simp)
    rw [List.foldl_cons, pstep_c _ hc]
    by_cases e : cell = []
    · subst e
      simp only [ne_eq, not_true_eq_false, false_and, if_false, if_true]
      rw [fold_word0 w fun d hd => hw d (by simp [hd])]
      simp
    · have : cell ≠ [] ∧ 1 < b := ⟨e, by rcases hb with h | h; exact absurd h e; omega⟩
      rw [if_pos this, if_neg e, fold_word0 w fun d hd => hw d (by simp [hd])]
      simp
theorem guess_line {p : Page} {f : Nat → Nat → Int} {k : Nat} {F : Nat → Nat} (fe : ∀ c, c < cellsIn p k → f k c = (F c : Int)) (hi : ∀ c, c + 1 < cellsIn p k → F c + (cellAt p k c).length + 2 ≤ F (c + 1))
    (hn : ∀ c, c < cellsIn p k → cellAt p k c ≠ [] ∧ ∀ x ∈ cellAt p k c, x ≠ 32) : ∀ n, n + 1 ≤ cellsIn p k → (lineN p f k (n + 1)).length = F n + (cellAt p k n).length ∧ (lineN p f k (n + 1)).foldl pstep ([], [], 0) = ((List.range n).map (cellAt p k), cellAt p k n, 0)
  | 0, h => by
    obtain ⟨h1, h2⟩ := hn 0 (by omega)
    rw [lineN, if_neg h1, ljustL_pad, fe 0 (by omega)]
    simp only [lineN, List.nil_append, List.length_nil, Nat.sub_zero, Int.toNat_natCast]
    refine ⟨by simp, ?_⟩
    rw [List.foldl_append, fold_b, fold_word _ h2 h1 _ _ _ (.inl rfl)]
    rfl
  | n + 1, h => by
    obtain ⟨h1, h2⟩ := hn (n + 1) (by omega)
    obtain ⟨h3, h4⟩ := hn n (by omega)
    obtain ⟨i1, i2⟩ := guess_line fe hi hn n (by omega)
    have hg := hi n (by omega)
    rw [lineN, if_neg h1, ljustL_pad, fe (n + 1) (by omega), Int.toNat_natCast, i1]
    refine ⟨by simp [i1]; omega, ?_⟩
    rw [List.foldl_append, List.foldl_append, i2, fold_b, fold_word _ h2 h1 _ _ _ (.inr (by omega)), if_neg h3, List.range_succ, List.map_append]
    rfl
theorem guess_row {p : Page} {f : Nat → Nat → Int} {k : Nat} {F : Nat → Nat} (fe : ∀ c, c < cellsIn p k → f k c = (F c : Int)) (hi : ∀ c, c + 1 < cellsIn p k → F c + (cellAt p k c).length + 2 ≤ F (c + 1))
    (hn : ∀ c, c < cellsIn p k → cellAt p k c ≠ [] ∧ ∀ x ∈ cellAt p k c, x ≠ 32) (h0 : 1 ≤ cellsIn p k) : guessL (lineR p f k) = (List.range (cellsIn p k)).map (cellAt p k) := by
  obtain ⟨n, e⟩ : ∃ n, cellsIn p k = n + 1 := ⟨cellsIn p k - 1, by omega⟩
  rw [guess_parts]
  unfold partsL lineR
  rw [e, (guess_line fe hi hn n (by omega)).2, List.range_succ, List.map_append]
  rfl
theorem wAt_ge {p : Page} (hp : okPage p = true) {y : Sty} {k c : Nat} (hk : k < p.length) (hc : c + 1 < cellsIn p k) : (cellAt p k c).length + y.g ≤ wAt p y k c := by
  have hcl : clo p c k = true := by rw [clo_cells hk]; exact decide_eq_true hc
  have := (cellsIn_le hp hk).2
  obtain ⟨m, cv⟩ := sttAt_mem (by omega : c < 5) hcl
  have hmem : cellAt p k c ∈ cellsOf p (sttAt p k c) := cell_in (by omega) hcl
  have : ((cellAt p k c).length : Int) ≤ most (cellsOf p (sttAt p k c)) := by
    unfold most
    exact (maxL_mem (by intro h; simp at h; rw [h] at hmem; cases hmem)).2 _ (List.mem_map.mpr ⟨_, hmem, rfl⟩)
  unfold wAt wid
  omega
theorem bAt_lo {p : Page} (hp : okPage p = true) {y : Sty} {k c : Nat} (hk : k < p.length) (hc : c < cellsIn p k) : sumW p y k c ≤ bAt p y k c := by
  unfold bAt
  by_cases hr : rightAt p k c = true
  · rw [if_pos hr]
    have hcl : clo p c k = true := by
      unfold rightAt at hr
      simp only [Bool.and_eq_true] at hr
      exact hr.1
    rw [clo_cells hk] at hcl
    have h2 := wAt_ge hp (y := y) hk (of_decide_eq_true hcl)
    simp only [sumW]
    omega
  · rw [if_neg hr]; omega
theorem bAt_hi {p : Page} (hp : okPage p = true) {y : Sty} {k c : Nat} (hk : k < p.length) (hc : c + 1 < cellsIn p k) : bAt p y k c + (cellAt p k c).length + y.g ≤ sumW p y k (c + 1) := by
  have h2 := wAt_ge hp (y := y) hk hc
  unfold bAt
  simp only [sumW]
  split <;> omega
theorem lies {p : Page} (hp : okPage p = true) {y : Sty} (hy : y.ok) {k : Nat} (hk : k < p.length) : Lies p (bAt p y) k (fun c => (sumW p y k c).toNat) (fun c => (bAt p y k c).toNat) := by
  have ⟨⟨g1, g2⟩, _⟩ := hy
  refine ⟨fun c hc => ?_, fun c hc => ?_, fun c hc => ?_⟩
  · have := sumW_b hp hy hk c hc
    have := bAt_lo hp (y := y) hk hc
    omega
  · have := bAt_lo hp (y := y) hk hc
    show _ ≤ _
    omega
  · have := sumW_b hp hy hk c (by omega)
    have := bAt_lo hp (y := y) hk (show c < cellsIn p k by omega)
    have := bAt_hi hp (y := y) hk hc
    show _ ≤ _
    omega
end Dl
namespace Dl
open PySem L2
theorem slS30 {S : Store} {k : Nat} {ds : List D} (h : S[k]? = some (.lst ds)) (lo hi : Option Int) : slG false S (.ref k) lo hi = .ok (.lst (cutD ds lo hi), S) := by simp [slG, lstOf, h, newL]
theorem lenS30 {S : Store} {k : Nat} {ds : List D} (h : S[k]? = some (.lst ds)) : lenG S [.ref k] = .ok (.int ds.length, S) := len_list (w := (ds, [(k, ds)])) (by simp only [listOf, h])
theorem ixS30 {S : Store} {k : Nat} {ds : List D} {i : Nat} {x : D} (h : S[k]? = some (.lst ds)) (hx : ds[i]? = some x) : ixG S (.ref k) (.int i) = .ok (x, S) := by
  have := ix_list (w := (ds, [(k, ds)])) (st := S) (d := .ref k) (by simp only [listOf, h]) (i : Int)
  rw [this]
  simp only [atI_nat, hx]
  rfl
theorem addFalse30 {S : Store} {q : Nat} {a b : List D} (h : S[q]? = some (.lst a)) (hl : a.length + b.length ≤ 1000000) : addG false S (.ref q) (.lst b) = .ok (.lst (a ++ b), S) := by
  have l1 : lstOf S (.ref q) = some a := by simp only [lstOf, h]
  have l2 : lstOf S (.lst b) = some b := rfl
  unfold addG
  simp only [l1, l2]
  rw [if_pos (le_LIM hl)]
  rfl
theorem is_stopsR {ns : List Nat} (h : GdSt ns) (hl : ns.length ≤ 1000) {st : Store} {k : Nat} (hk : st[k]? = some (.lst (natsD ns))) : m_is_stops [.ref k] st = .ok (.bl true, st) := by
  unfold m_is_stops funD d_is_stops
  have c1 : cutD (natsD ns) none (some 1) = [.int 0] := by
    have := cut_to (natsD ns) 1
    rw [show ((1 : Nat) : Int) = 1 from rfl] at this
    rw [this]
    obtain ⟨n, r, rfl⟩ : ∃ n r, ns = n :: r := by
      cases ns with
      | nil => have := h.pos; simp at this
      | cons n r => exact ⟨n, r, rfl⟩
    have := h.hd
    simp at this
    subst this
    rfl
  have e1 := ne_ints (st := st) (a := [.int 0]) (b := [.int 0]) rfl rfl (by simp) (by simp)
  have hl' : ns.length ≤ LIM := le_LIM (by omega)
  have sl := slS30 hk none (some 1)
  rw [c1] at sl
  have st1 : still [(k, natsD ns)] st = true := still_one hk
  have ln := lenS30 hk
  rw [show (natsD ns).length = ns.length by simp] at ln
  simp [tyOf, subTy, hk, sl, e1, itemsOf, hl']
  rw [lc_keep st1 (fun _ => false) _ (fun d hd => ?_) (by simp [wipeD])]
  · rw [show ∀ l : List D, l.filter (fun _ => false) = [] from fun l => List.filter_eq_nil_iff.mpr (by simp)]
    have hp := h.pos
    have sub : ∀ st, subG st (.int (ns.length : Int)) (.int 1) = .ok (.int ((ns.length - 1 : Nat) : Int), st) := fun st => by
      show R.ok (D.int ((ns.length : Int) - 1), st) = _
      congr 3; omega
    have m1 : -1000000 ≤ ((ns.length - 1 : Nat) : Int) ∧ ((ns.length - 1 : Nat) : Int) ≤ 1000000 := by omega
    have m2 : ns.length - 1 ≤ LIM := le_LIM (by omega)
    have e2 := ne_ints (st := st) (a := []) (b := []) rfl rfl (by simp) (by simp)
    have e3 : eqG false st (.lst []) (.lst []) = .ok (.bl true, st) := by
      rw [eqG_pl rfl rfl (by simp) (by simp)]; simp
    simp [e2, ln, sub, m1, m2]
    rw [lc_keep rfl (fun _ => false) _ (fun d hd => ?_) (by simp [wipeD])]
    · rw [show ∀ l : List D, l.filter (fun _ => false) = [] from fun l => List.filter_eq_nil_iff.mpr (by simp)]
      simp [e3]
    · obtain ⟨i, hi⟩ := List.getElem?_of_mem hd
      obtain ⟨hi, rfl⟩ := ints_get hi
      have x1 : i < ns.length := by omega
      have x2 : i + 1 < ns.length := by omega
      have up := List.pairwise_iff_getElem.mp h.up i (i + 1) x1 x2 (by omega)
      have a1 := ixS30 hk (natsD_get (List.getElem?_eq_getElem x1))
      have a2 := ixS30 hk (natsD_get (List.getElem?_eq_getElem x2))
      rw [show ((i + 1 : Nat) : Int) = (i : Int) + 1 by omega] at a2
      simp [wipeD, a1, a2, add_ii, gtG]
      omega
  · obtain ⟨n, hn, rfl⟩ := List.mem_map.mp hd
    have := h.le n hn
    have z : (n : Int) ≤ 200 := by omega
    simp [wipeD, z]
theorem read_backR {ls nss : List (List Nat)} {st : Store} {q1 q2 : Nat} {T : List D} (h1 : st[q1]? = some (.lst (strsD ls))) (h2 : st[q2]? = some (.lst T)) (hT : T.length = nss.length) (hk : ∀ (i : Nat) (ns : List Nat), nss[i]? = some ns → ∃ k : Nat, T[i]? = some (D.ref k) ∧ st[k]? = some (Ob.lst (natsD ns)))
    (hls : ls.length ≤ 30) (hok : ∀ s ∈ ls, okLine s = true) (hl : nss.length = ls.length) (hg : ∀ ns ∈ nss, GdSt ns ∧ ns.length ≤ 1000) : m_read_back_k07 [.ref q1, .ref q2] st = .ok (.ref st.length, st ++ [.lst (rowsL ls nss)]) := by
  have nl := le_need_lines.ok (need_lines_ok (d := .ref q1) (ds := strsD ls) (w := [(q1, strsD ls)]) (st := st) (by simp only [listOf, h1]) (by simp; exact hls) (strs6_lines hok))
  unfold m_read_back_k07 funD d_read_back_k07
  have m1 : -1000000 ≤ (ls.length : Int) ∧ (ls.length : Int) ≤ 1000000 := by omega
  have ln1 := lenS30 h1
  rw [show (strsD ls).length = ls.length by simp] at ln1
  have ln2 := lenS30 h2
  rw [hT, hl] at ln2
  simp [nl, ln1, m1]
  generalize hf : forGo _ _ _ _ _ _ = r
  obtain ⟨e, s, rfl, e1, a2, e2⟩ := for_at hf (fun i env st' => st' = st ∧ ∃ a2, env = [some (.ref q1), some (.ref q2), a2, none, none, none, none, none]) ⟨rfl, _, rfl⟩ (fun _ _ _ _ _ => rfl) (fun i x env st' hi ⟨e1, a2, e2⟩ => by
    subst e1 e2
    obtain ⟨hi, rfl⟩ := ints_get hi
    have hn : nss[i]? = some (nss[i]'(by omega)) := List.getElem?_eq_getElem (by omega)
    obtain ⟨k, hk1, hk2⟩ := hk i _ hn
    obtain ⟨g, gl⟩ := hg _ (List.mem_of_getElem? hn)
    have is := is_stopsR g gl hk2
    have ix := ixS30 h2 hk1
    have nge : ¬ (ls.length : Int) ≤ i := by omega
    refine turn_eq (e := [some (.ref q1), some (.ref q2), some (.int i), none, none, none, none, none]) (s := st') ?_ ⟨rfl, _, rfl⟩
    simp [ln2, geG, nge, ix, is])
  subst e1 e2
  have g1 : (s ++ [Ob.lst []])[q1]? = some (.lst (strsD ls)) := get_app h1
  have g2 : (s ++ [Ob.lst []])[q2]? = some (.lst T) := get_app h2
  have lo1 : listOf (s ++ [Ob.lst []]) (.ref q1) = some (strsD ls, [(q1, strsD ls)]) := by simp only [listOf, g1]
  have lo2 : listOf (s ++ [Ob.lst []]) (.ref q2) = some (T, [(q2, T)]) := by simp only [listOf, g2]
  simp [ln1, ln2, lo1, lo2]
  generalize hf : forGo _ _ _ _ _ _ = r
  obtain ⟨e, s', rfl, e1, a4, a5, a6, a7, e2⟩ := for_at hf (fun i env st' => st' = s ++ [.lst (rowsL (ls.take i) (nss.take i))] ∧ ∃ a4 a5 a6 a7, env = [some (.ref q1), some (.ref q2), a2, some (.ref s.length), a4, a5, a6, a7]) ⟨by simp [rowsL], _, _, _, _, rfl⟩ (fun i env st' _ ⟨e1, _⟩ => by
    subst e1
    have g1 : (s ++ [Ob.lst (rowsL (ls.take i) (nss.take i))])[q1]? = some (.lst (strsD ls)) := get_app h1
    have g2 : (s ++ [Ob.lst (rowsL (ls.take i) (nss.take i))])[q2]? = some (.lst T) := get_app h2
    simp [still, g1, g2, D.beqs_refl]) (fun i x env st' hi ⟨e1, a4, a5, a6, a7, e2⟩ => by
    subst e1 e2
    obtain ⟨d1, d2, h3, h4, rfl⟩ := zipUp_get hi
    cases q3 : ls[i]? with
    | none => unfold strsD at h3; rw [List.getElem?_map, q3] at h3; cases h3
    | some line =>
      have hil := (List.getElem?_eq_some_iff.mp q3).1
      have q4 : nss[i]? = some (nss[i]'(by omega)) := List.getElem?_eq_getElem (by omega)
      obtain ⟨ns, hns⟩ : ∃ ns, ns = nss[i]'(by omega) := ⟨_, rfl⟩
      rw [← hns] at q4
      obtain ⟨k, k1, k2⟩ := hk i ns q4
      rw [strs6_get q3] at h3
      rw [k1] at h4
      cases h3
      cases h4
      obtain ⟨g, gl⟩ := hg ns (List.mem_of_getElem? q4)
      have hline := (okLine_parts (hok line (List.mem_of_getElem? q3))).1
      have gp := g.pos
      obtain ⟨la, hla⟩ : ∃ la, ns[ns.length - 1]? = some la := ⟨ns[ns.length - 1], by rw [List.getElem?_eq_getElem (by omega)]⟩
      have lla := g.le la (List.mem_of_getElem? hla)
      have eL : atI (natsD ns) (-1) = some (.int (la : Int)) := by
        have h1 : ¬ (0 : Int) ≤ -1 := by decide
        have h2 : -((natsD ns).length : Int) ≤ -1 := by simp; omega
        simp only [atI, ixN, if_neg h1, if_pos h2, Option.bind_some]
        have : ((-1 : Int) + ((natsD ns).length : Nat)).toNat = ns.length - 1 := by simp; omega
        rw [this]; exact natsD_get hla
      have mx : maxG (s ++ [Ob.lst (rowsL (ls.take i) (nss.take i))]) [.int line.length, .int la] = .ok (.int ((max line.length la : Nat) : Int), s ++ [Ob.lst (rowsL (ls.take i) (nss.take i))]) := by
        show R.ok (D.int (max (line.length : Int) la), _) = _
        congr 3; omega
      generalize hM : max line.length la = M at mx
      have hap := fr_app s (L := rowsL (ls.take i) (nss.take i)) (.tup (strsD (rowL line ns))) (by simp [rowsL]; omega)
      have hty := fr_ty s (rowsL (ls.take i) (nss.take i))
      have e3 : rowsL (ls.take (i + 1)) (nss.take (i + 1)) = rowsL (ls.take i) (nss.take i) ++ [.tup (strsD (rowL line ns))] := by
        unfold rowsL
        rw [take_snoc q3, take_snoc q4, List.zip_append (by simp; omega), List.map_append]
        rfl
      have k3 : (s ++ [Ob.lst (rowsL (ls.take i) (nss.take i))])[k]? = some (.lst (natsD ns)) := get_app k2
      rw [e3]
      generalize hS : s ++ [Ob.lst (rowsL (ls.take i) (nss.take i))] = S at mx hap hty k3 ⊢
      have ad : addG false S (.ref k) (.lst [.int (M : Int)]) = .ok (.lst (natsD ns ++ [.int (M : Int)]), S) := addFalse30 k3 (by simp; omega)
      have ixm : ixG S (.ref k) (.int (-1)) = .ok (.int (la : Int), S) := by
        have := ix_list (w := (natsD ns, [(k, natsD ns)])) (st := S) (d := .ref k) (by simp only [listOf, k3]) (-1)
        rw [this]
        simp only [eL]
        rfl
      have lk := lenS30 k3
      rw [show (natsD ns).length = ns.length by simp] at lk
      have m1 : -1000000 ≤ (ns.length : Int) ∧ (ns.length : Int) ≤ 1000000 := by omega
      have m2 : ns.length ≤ LIM := le_LIM (by omega)
      simp [len_s, ixm, mx, ad, lk, m1, m2]
      rw [lc_map (st := S) rfl (fun d => match d with | .int k => .str (cellL line ns k.toNat) | d => d) (intsD 0 ns.length) (fun d hd => by
        obtain ⟨j, hj⟩ := List.getElem?_of_mem hd
        obtain ⟨hj', rfl⟩ := ints_get hj
        replace hj := hj'
        refine ⟨_, rfl, ?_⟩
        obtain ⟨a, ha⟩ : ∃ a, ns[j]? = some a := ⟨ns[j], by simp [hj]⟩
        have ea : atI (natsD ns ++ [.int (M : Int)]) (j : Int) = some (.int (a : Int)) := by
          rw [atI_nat, List.getElem?_append_left (by simp; exact hj)]; exact natsD_get ha
        obtain ⟨b, eb, hb⟩ : ∃ b : Nat, atI (natsD ns ++ [.int (M : Int)]) ((j : Int) + 1) = some (.int (b : Int)) ∧ cellL line ns j = stripL [32] ((line.drop a).take (b - a)) := by
          rw [show (j : Int) + 1 = ((j + 1 : Nat) : Int) by omega, atI_nat]
          by_cases hj1 : j + 1 < ns.length
          · refine ⟨ns[j + 1], by rw [List.getElem?_append_left (by simp; exact hj1)]; exact natsD_get (List.getElem?_eq_getElem hj1), ?_⟩
            unfold cellL
            rw [ha, List.getElem?_eq_getElem hj1]
          · have ej : j + 1 = ns.length := by omega
            refine ⟨M, by rw [List.getElem?_append_right (by simp; omega)]; simp [ej], ?_⟩
            unfold cellL
            rw [ha, List.getElem?_eq_none (by omega)]
            have : la = a := by
              have : ns.length - 1 = j := by omega
              rw [this, ha] at hla
              exact (Option.some.inj hla).symm
            simp only
            rw [List.take_of_length_le (by rw [List.length_drop]; omega)]
        simp [ixL, ea, eb, add_ii, sl_s, cut_ft, tyM, stripG, hb])]
      have e4 : (intsD 0 ns.length).map (fun d => match d with | .int k => .str (cellL line ns k.toNat) | d => d) = strsD (rowL line ns) := by
        refine List.ext_getElem? fun j => ?_
        rw [List.getElem?_map]
        by_cases hj : j < ns.length
        · rw [ints_at 0 ns.length j hj]
          unfold strsD rowL
          rw [List.getElem?_map, List.getElem?_map, List.getElem?_range hj]
          simp
        · rw [List.getElem?_eq_none (by simp; omega), List.getElem?_eq_none (by rw [strs6_len, rowL_len]; omega)]
          rfl
      rw [e4]
      simp [tupG, lstOf, hty, hap])
  subst e1 e2
  have e5 : (zipUp (strsD ls) T).length = ls.length := by rw [zipUp_len]; simp [hT, hl]
  simp [e5]
  rw [← hl, List.take_length]
end Dl
namespace Dl
open PySem L2
/-- law_bare: 3 slots, 1 parameters -/
def d_law_bare : SV := sRet (eLc false (iSeq (eV 0)) [1] (.one 1) (tYesD) (eB tupG (aCons (eLc false (iSeq (eV 1)) [2] (.one 2) (tYesD) (eMt "str" (stripG) (eV 2) (aCons (eC (.str [32])) (aNil)))) (aNil))))
/-- law_plain: 5 slots, 1 parameters -/
def d_law_plain : SV := sCons (sAsg (eLst true (aNil)) (gN 1)) (sCons (sFor (iSeq (eV 0)) (gN 2) (sCons (sAsg (eLc false (iSeq (eV 2)) [4] (.one 4) (tYesD) (eMt "str" (replG) (eV 4) (aCons (eC (.str [32])) (aCons (eC (.str [95])) (aNil))))) (gN 3)) (sExpr (eMt "list" (appendG) (eV 1) (aCons (eB tupG (aCons (eLc false (iSeq (eV 3)) [4] (.one 4) (tYesD) (eIf (tv (eOp (eqG true) (eV 4) (eC (.str [])))) (eV 4) (eC (.str [95])))) (aNil))) (aNil)))))) (sRet (eV 1)))
/-- law_k07: 8 slots, 1 parameters -/
def d_law_k07 (m_law_begun : FV) (m_law_page : FV) (m_law_take : FV) (m_law_style : FV) (m_law_bare : FV) (m_law_alike : FV) (m_read_back_k07 : FV) (m_stops : FV) (m_shown : FV) (m_law_plain : FV) (m_guessed : FV) : SV := sCons (sAsg (eCall 1 m_law_begun (aCons (eV 0) (aNil))) (gN 1)) (sCons (sFor (iR1 (aCons (eC (.int 4)) (aNil))) (gN 2) (sCons (sPar 3 4 (aCons (eCall 2 m_law_page (aCons (eV 1) (aCons (eOp ixG (eLst false (aCons (eC (.int 6)) (aCons (eC (.int 30)) (aNil)))) (eCall 2 m_law_take (aCons (eV 1) (aCons (eC (.int 2)) (aNil))))) (aNil)))) (aCons (eCall 1 m_law_style (aCons (eV 1) (aNil))) (aNil)))) (sCons (sAsg (eCall 1 m_law_bare (aCons (eV 3) (aNil))) (gN 5)) (sCons (sIf (tNotD (tv (eCall 2 m_law_alike (aCons (eCall 2 m_read_back_k07 (aCons (eCall 2 m_shown (aCons (eV 5) (aCons (eV 4) (aNil)))) (aCons (eCall 2 m_stops (aCons (eV 5) (aCons (eV 4) (aNil)))) (aNil)))) (aCons (eV 5) (aNil)))))) (sRet (eC (.bl false))) (sNext)) (sCons (sIf (tNotD (tv (eCall 2 m_law_alike (aCons (eCall 2 m_read_back_k07 (aCons (eCall 2 m_shown (aCons (eV 3) (aCons (eV 4) (aNil)))) (aCons (eCall 2 m_stops (aCons (eV 3) (aCons (eV 4) (aNil)))) (aNil)))) (aCons (eV 5) (aNil)))))) (sRet (eC (.bl false))) (sNext)) (sCons (sPar 6 7 (aCons (eCall 1 m_law_plain (aCons (eV 3) (aNil))) (aCons (eTup (aCons (eOp (addG false) (eC (.int 2)) (eOp divG (eOp ixG (eV 4) (eC (.int 0))) (eC (.int 2)))) (aCons (eOp ixG (eV 4) (eC (.int 1))) (aNil)))) (aNil)))) (sCons (sIf (tNotD (tv (eCall 2 m_law_alike (aCons (eCall 1 m_guessed (aCons (eCall 2 m_shown (aCons (eV 6) (aCons (eV 7) (aNil)))) (aNil))) (aCons (eV 6) (aNil)))))) (sRet (eC (.bl false))) (sNext)) (sIf (tv (eOp (eqG true) (eCall 2 m_shown (aCons (eCall 2 m_read_back_k07 (aCons (eCall 2 m_shown (aCons (eV 5) (aCons (eV 4) (aNil)))) (aCons (eCall 2 m_stops (aCons (eV 5) (aCons (eV 4) (aNil)))) (aNil)))) (aCons (eV 4) (aNil)))) (eCall 2 m_shown (aCons (eV 5) (aCons (eV 4) (aNil)))))) (sRet (eC (.bl false))) (sNext))))))))) (sRet (eC (.bl true))))
end Dl
namespace Dl
open PySem L2
def m_law_bare : FV := funD 3 d_law_bare
def m_law_plain : FV := funD 5 d_law_plain
def m_law_k07 : FV := funD 8 (d_law_k07 m_law_begun m_law_page m_law_take m_law_style m_law_bare m_law_alike m_read_back_k07 m_stops m_shown m_law_plain m_guessed)
def bareP (p : Page) : Page := p.map fun r => r.map (stripL [32])
def repC (s : List Nat) : List Nat := if (s.map fun c => if c = 32 then 95 else c) = [] then [95] else s.map fun c => if c = 32 then 95 else c
def plainP (p : Page) : Page := p.map fun r => r.map repC
theorem okCell_parts07 {s : List Nat} (h : okCell s = true) : s.length ≤ 10 ∧ ∀ c ∈ s, okSign c = true := by
  simpa [okCell] using h
theorem strip_ok07 {s : List Nat} (h : okCell s = true) : okCell (stripL [32] s) = true := by
  obtain ⟨h1, h2⟩ := okCell_parts07 h
  exact okCell_mk (Nat.le_trans (Nat.le_trans (rcut_len _ _) (lcut_len _ _)) h1) fun c hc => h2 c (lcut_sub _ _ _ (rcut_sub _ _ _ hc))
theorem rep_ok07 {s : List Nat} (h : okCell s = true) : okCell (repC s) = true := by
  obtain ⟨h1, h2⟩ := okCell_parts07 h
  unfold repC
  split
  · decide
  · refine okCell_mk (by rw [List.length_map]; exact h1) fun c hc => ?_
    obtain ⟨x, hx, rfl⟩ := List.mem_map.mp hc
    split
    · decide
    · exact h2 x hx
theorem map_ok07 {f : List Nat → List Nat} (hf : ∀ s, okCell s = true → okCell (f s) = true) {p : Page} (hp : okPage p = true) : okPage (p.map fun r => r.map f) = true := by
  obtain ⟨p1, p2, p3⟩ := okPage_parts hp
  refine okPage_mk (by rw [List.length_map]; exact p1) (by rw [List.length_map]; exact p2) fun r hr => ?_
  obtain ⟨x, hx, rfl⟩ := List.mem_map.mp hr
  obtain ⟨r1, r2, r3⟩ := okRow_parts (p3 x hx)
  refine okRow_mk (by rw [List.length_map]; exact r1) (by rw [List.length_map]; exact r2) fun c hc => ?_
  obtain ⟨s, hs, rfl⟩ := List.mem_map.mp hc
  exact hf s (r3 s hs)
theorem bare_ok07 {p : Page} (hp : okPage p = true) : okPage (bareP p) = true := map_ok07 (fun _ h => strip_ok07 h) hp
theorem plain_ok07 {p : Page} (hp : okPage p = true) : okPage (plainP p) = true := map_ok07 (fun _ h => rep_ok07 h) hp
theorem strip_twice (s : List Nat) : stripL [32] (stripL [32] s) = stripL [32] s := by
  show rcut isBk (lcut isBk (rcut isBk (lcut isBk s))) = rcut isBk (lcut isBk s)
  obtain ⟨_, _, h1⟩ := lcut_dec s
  obtain ⟨_, _, h2⟩ := rcut_dec (lcut isBk s)
  rw [lcut_plain (rcut_head h1), rcut_plain h2]
theorem bare_twice (p : Page) : bareP (bareP p) = bareP p := by
  unfold bareP
  rw [List.map_map]
  refine List.map_congr_left fun r _ => ?_
  show (r.map (stripL [32])).map (stripL [32]) = _
  rw [List.map_map]
  exact List.map_congr_left fun s _ => strip_twice s
/-- the signs of a plain cell -/
theorem rep_no07 (s : List Nat) : repC s ≠ [] ∧ ∀ x ∈ repC s, x ≠ 32 := by
  unfold repC
  split
  · exact ⟨by simp, fun x hx => by simp at hx; omega⟩
  · rename_i h
    refine ⟨h, fun x hx => ?_⟩
    obtain ⟨c, _, rfl⟩ := List.mem_map.mp hx
    split <;> omega
section
variable {p : Page} {d : D} {w : List (Nat × List D)} {S : Store}
theorem items_list07 {ds : List D} (h : listOf S d = some (ds, w)) : itemsOf S d = some (ds, w) := by
  cases d <;> first | exact h | (simp only [listOf] at h; cases h; done) | skip
theorem bare07 (hp : okPage p = true) (hd : listOf S d = some (encP p, w)) : m_law_bare [d] S = .ok (.lst (encP (bareP p)), S) := by
  obtain ⟨p1, p2, p3⟩ := okPage_parts hp
  have ll : (encP p).length ≤ LIM := le_LIM (by rw [encP_len]; omega)
  have key := lc_map (t := .one 1) (te := eB tupG (aCons (eLc false (iSeq (eV 1)) [2] (.one 2) (tYesD) (eMt "str" (stripG) (eV 2) (aCons (eC (.str [32])) (aNil)))) (aNil))) (env := [some d, none, none]) (still_list hd) (fun x => match x with | .tup ds => .tup (ds.map fun z => match z with | .str s => .str (stripL [32] s) | z => z) | x => x) (encP p) (fun x hx => by
    obtain ⟨r, hr, rfl⟩ := List.mem_map.mp hx
    obtain ⟨r1, r2, r3⟩ := okRow_parts (p3 r hr)
    refine ⟨[some d, some (encR r), none], rfl, ?_⟩
    have l6 : r.length ≤ LIM := le_LIM (by omega)
    have inner := lc_map (t := .one 2) (te := eMt "str" (stripG) (eV 2) (aCons (eC (.str [32])) (aNil))) (env := [some d, some (encR r), none]) (st := S) (still_nil _) (fun z => match z with | .str s => .str (stripL [32] s) | z => z) (r.map .str) (fun z hz => by
      obtain ⟨s, _, rfl⟩ := List.mem_map.mp hz
      refine ⟨[some d, some (encR r), some (.str s)], rfl, ?_⟩
      simp [tyM, stripG])
    have it : itemsOf S (encR r) = some (r.map .str, []) := rfl
    have lR : (r.map D.str).length ≤ LIM := by rw [List.length_map]; exact l6
    have lR2 : ((r.map D.str).map fun z => match z with | .str s => D.str (stripL [32] s) | z => z).length ≤ LIM := by rw [List.length_map]; exact lR
    show _ = R.ok (D.tup ((r.map D.str).map fun z => match z with | .str s => D.str (stripL [32] s) | z => z), S)
    generalize encR r = RR at inner it ⊢
    generalize hT : (r.map D.str).map (fun z => match z with | .str s => D.str (stripL [32] s) | z => z) = T at inner lR2 ⊢
    generalize r.map D.str = RS at inner it lR
    simp [it, lR, inner, newL, lR2, tupG, lstOf])
  have e : (encP p).map (fun x => match x with | .tup ds => D.tup (ds.map fun z => match z with | .str s => .str (stripL [32] s) | z => z) | x => x) = encP (bareP p) := by
    unfold encP bareP
    rw [List.map_map, List.map_map]
    refine List.map_congr_left fun r _ => ?_
    show D.tup ((r.map D.str).map _) = D.tup ((r.map (stripL [32])).map D.str)
    rw [List.map_map, List.map_map]
    rfl
  rw [e] at key
  have l2 : (encP (bareP p)).length ≤ LIM := le_LIM (by rw [encP_len]; unfold bareP; rw [List.length_map]; omega)
  have it : itemsOf S d = some (encP p, w) := items_list07 hd
  unfold m_law_bare funD d_law_bare
  have hst : (List.map some [d] ++ List.replicate (3 - [d].length) none : Env) = [some d, none, none] := rfl
  rw [hst]
  generalize eB tupG (aCons (eLc false (iSeq (eV 1)) [2] (.one 2) (tYesD) (eMt "str" (stripG) (eV 2) (aCons (eC (.str [32])) (aNil)))) (aNil)) = EE at key ⊢
  have lp : p.length ≤ LIM := le_LIM (by omega)
  simp [it, lp, key, newL, l2]
/-- blanks and empty cells filled -/
theorem plain07 (hp : okPage p = true) (hd : listOf S d = some (encP p, w)) : m_law_plain [d] S = .ok (.ref S.length, S ++ [.lst (encP (plainP p))]) := by
  obtain ⟨p1, p2, p3⟩ := okPage_parts hp
  have ll : (encP p).length ≤ LIM := le_LIM (by rw [encP_len]; omega)
  have hd1 : ∀ M, listOf (S ++ M) d = some (encP p, w) := fun M => listOf_stays (Stays.app S M) hd
  have it : ∀ M, itemsOf (S ++ M) d = some (encP p, w) := fun M => items_list07 (hd1 M)
  unfold m_law_plain funD d_law_plain
  have hst : (List.map some [d] ++ List.replicate (5 - [d].length) none : Env) = [some d, none, none, none, none] := rfl
  rw [hst]
  have s0 : sAsg (eLst true (aNil)) (gN 1) [some d, none, none, none, none] S = .nx [some d, some (.ref S.length), none, none, none] (S ++ [.lst []]) := by
    simp [newL]
  rw [sCons_nx s0, r_sCons]
  obtain ⟨body, hbody⟩ : ∃ body, body = sCons (sAsg (eLc false (iSeq (eV 2)) [4] (.one 4) (tYesD) (eMt "str" (replG) (eV 4) (aCons (eC (.str [32])) (aCons (eC (.str [95])) (aNil))))) (gN 3)) (sExpr (eMt "list" (appendG) (eV 1) (aCons (eB tupG (aCons (eLc false (iSeq (eV 3)) [4] (.one 4) (tYesD) (eIf (tv (eOp (eqG true) (eV 4) (eC (.str [])))) (eV 4) (eC (.str [95])))) (aNil))) (aNil)))) := ⟨_, rfl⟩
  rw [← hbody]
  have eF : sFor (iSeq (eV 0)) (gN 2) body [some d, some (.ref S.length), none, none, none] (S ++ [.lst []]) = forGo w (gN 2) body (encP p) [some d, some (.ref S.length), none, none, none] (S ++ [.lst []]) := by
    have it1 := it [.lst []]
    generalize S ++ [Ob.lst []] = S1 at it1 ⊢
    simp [it1]
  rw [eF]
  generalize hf : forGo _ _ _ _ _ _ = rr
  obtain ⟨e, s, rfl, rfl, c2, c3, c4, rfl⟩ := for_at hf (fun i env st' => st' = S ++ [.lst (encP (plainP (p.take i)))] ∧ ∃ c2 c3 c4, env = [some d, some (.ref S.length), c2, c3, c4]) ⟨by simp [encP, plainP], _, _, _, rfl⟩ (fun i env st' _ ⟨e1, _⟩ => by rw [e1]; exact still_list (hd1 _)) (fun i x env st' hi ⟨e1, c2, c3, c4, e2⟩ => by
    subst e1 e2
    unfold encP at hi
    rw [List.getElem?_map] at hi
    obtain ⟨r, hr, rfl⟩ := Option.map_eq_some_iff.mp hi
    have hil := (List.getElem?_eq_some_iff.mp hr).1
    obtain ⟨r1, r2, r3⟩ := okRow_parts (p3 r (List.mem_of_getElem? hr))
    have l6 : r.length ≤ LIM := le_LIM (by omega)
    have hap := fr_app S (L := encP (plainP (p.take i))) (.tup ((r.map repC).map .str)) (by rw [encP_len]; unfold plainP; rw [List.length_map, List.length_take]; omega)
    have hty := fr_ty S (encP (plainP (p.take i)))
    have e3 : encP (plainP (p.take (i + 1))) = encP (plainP (p.take i)) ++ [.tup ((r.map repC).map .str)] := by
      unfold encP plainP
      rw [take_snoc hr, List.map_append, List.map_append]
      rfl
    rw [e3]
    generalize S ++ [Ob.lst (encP (plainP (p.take i)))] = S1 at hap hty ⊢
    generalize S ++ [Ob.lst (encP (plainP (p.take i)) ++ [D.tup ((r.map repC).map D.str)])] = S2 at hap ⊢
    let f1 : D → D := fun z => match z with | .str s => .str (s.map fun c => if c = 32 then 95 else c) | z => z
    let f2 : D → D := fun z => match z with | .str s => .str (if s = [] then [95] else s) | z => z
    have in1 : ∀ env4 : Env, env4.length = 5 → env4[2]? = some (some (encR r)) → lcGo [] (.one 4) tYesD (eMt "str" (replG) (eV 4) (aCons (eC (.str [32])) (aCons (eC (.str [95])) (aNil)))) env4 (r.map .str) [] S1 = .ok ((r.map .str).map f1, S1) := fun env4 h5 _ => lc_map (still_nil _) f1 (r.map .str) fun z hz => by
      obtain ⟨s, hs, rfl⟩ := List.mem_map.mp hz
      refine ⟨env4.set 4 (some (.str s)), rfl, ?_⟩
      have sl := (okCell_parts07 (r3 s hs)).1
      have g4 : (env4.set 4 (some (.str s)))[4]? = some (some (.str s)) := by rw [List.getElem?_set_self (by omega)]
      have bd : s.length + (s.length + 1) ≤ 1000000 := by omega
      have rp := repl_one 32 95 s
      simp [g4, tyM, replG, bd, rp]
      rfl
    have in2 : ∀ env4 : Env, env4.length = 5 → lcGo [] (.one 4) tYesD (eIf (tv (eOp (eqG true) (eV 4) (eC (.str [])))) (eV 4) (eC (.str [95]))) env4 ((r.map .str).map f1) [] S1 = .ok (((r.map .str).map f1).map f2, S1) := fun env4 h5 => lc_map (still_nil _) f2 _ fun z hz => by
      rw [List.map_map] at hz
      obtain ⟨s, hs, rfl⟩ := List.mem_map.mp hz
      obtain ⟨t, ht⟩ : ∃ t, t = s.map fun c => if c = 32 then 95 else c := ⟨_, rfl⟩
      refine ⟨env4.set 4 (some (.str t)), by rw [ht]; rfl, ?_⟩
      have g4 : (env4.set 4 (some (.str t)))[4]? = some (some (.str t)) := by rw [List.getElem?_set_self (by omega)]
      have q := eqs true S1 t []
      rw [if_pos rfl] at q
      show _ = R.ok (f2 (D.str (s.map fun c => if c = 32 then 95 else c)), S1)
      rw [← ht]
      by_cases z : t = []
      · rw [decide_eq_true z] at q
        show _ = R.ok (D.str (if t = [] then [95] else t), S1)
        rw [if_pos z]
        simp [g4, q]
      · rw [decide_eq_false z] at q
        show _ = R.ok (D.str (if t = [] then [95] else t), S1)
        rw [if_neg z]
        simp [g4, q]
    have e4 : ((r.map D.str).map f1).map f2 = (r.map repC).map D.str := by
      rw [List.map_map, List.map_map, List.map_map]
      refine List.map_congr_left fun s _ => ?_
      show D.str (if (s.map fun c => if c = 32 then 95 else c) = [] then [95] else s.map fun c => if c = 32 then 95 else c) = D.str (repC s)
      rfl
    rw [e4] at in2
    have itr : ∀ S : Store, itemsOf S (encR r) = some (r.map .str, []) := fun _ => rfl
    have lR : (r.map D.str).length ≤ LIM := by rw [List.length_map]; exact l6
    have lR1 : ((r.map D.str).map f1).length ≤ LIM := by rw [List.length_map]; exact lR
    have lR2 : ((r.map repC).map D.str).length ≤ LIM := by rw [List.length_map, List.length_map]; exact l6
    have i1 := in1 [some d, some (.ref S.length), some (encR r), c3, none] rfl rfl
    obtain ⟨T1, hT1⟩ : ∃ T1, T1 = (r.map D.str).map f1 := ⟨_, rfl⟩
    rw [← hT1] at i1 in2 lR1
    have i2 := in2 [some d, some (.ref S.length), some (encR r), some (.lst T1), none] rfl
    have itl : ∀ S : Store, itemsOf S (.lst T1) = some (T1, []) := fun _ => rfl
    refine turn_eq (e := [some d, some (.ref S.length), some (encR r), some (.lst T1), c4]) (s := S2) ?_ ⟨rfl, _, _, _, rfl⟩
    rw [hbody]
    generalize encR r = RR at itr i1 i2 ⊢
    generalize (r.map repC).map D.str = T2 at i2 lR2 hap
    generalize r.map D.str = RS at itr i1 lR
    simp [itr, lR, i1, newL, lR1, itl, i2, lR2, tupG, lstOf, hty, hap])
  rw [then_nx]
  have e5 : p.take (encP p).length = p := by rw [encP_len]; exact List.take_length
  rw [e5]
  simp
end
end Dl
namespace Dl
open PySem L2
def leftsP (p : Page) (y : Sty) (k : Nat) : List Nat := (List.range (cellsIn p k)).map fun c => (sumW p y k c).toNat
def nssP (p : Page) (y : Sty) : List (List Nat) := (List.range p.length).map (leftsP p y)
theorem row_cells07 (p : Page) (k : Nat) : (List.range (cellsIn p k)).map (cellAt p k) = rowAt p k := by
  apply List.ext_getElem?
  intro c
  rw [List.getElem?_map]
  unfold cellsIn rowAt cellAt
  generalize p.getD k [] = r
  by_cases h : c < r.length
  · rw [List.getElem?_range h, List.getElem?_eq_getElem h]
    simp [List.getD, h]
  · rw [List.getElem?_eq_none (by simp; omega), List.getElem?_eq_none (by omega)]
    rfl
theorem page_rows07 (p : Page) : (List.range p.length).map (rowAt p) = p := by
  apply List.ext_getElem?
  intro k
  rw [List.getElem?_map]
  unfold rowAt
  by_cases h : k < p.length
  · rw [List.getElem?_range h, List.getElem?_eq_getElem h]
    simp [List.getD, h]
  · rw [List.getElem?_eq_none (by simp; omega), List.getElem?_eq_none (by omega)]
    rfl
section
variable {p : Page} {y : Sty}
theorem leftsP_at {k c : Nat} (hc : c < cellsIn p k) : (leftsP p y k)[c]? = some (sumW p y k c).toNat := by
  unfold leftsP
  rw [List.getElem?_map, List.getElem?_range hc]; rfl
theorem leftsP_len (k : Nat) : (leftsP p y k).length = cellsIn p k := by simp [leftsP]
theorem back_row07 (hp : okPage p = true) (hy : y.ok) {k : Nat} (hk : k < p.length) : rowL (lineR p (bAt p y) k) (leftsP p y k) = (rowAt p k).map (stripL [32]) := by
  have li := lies hp hy hk
  rw [← row_cells07, List.map_map]
  unfold rowL
  rw [leftsP_len]
  refine List.map_congr_left fun c hc => ?_
  have hc := List.mem_range.mp hc
  show cellL _ _ c = stripL [32] (cellAt p k c)
  unfold cellL
  rw [leftsP_at hc]
  by_cases h1 : c + 1 < cellsIn p k
  · rw [leftsP_at h1]
    exact li.cell h1
  · rw [List.getElem?_eq_none (by rw [leftsP_len]; omega)]
    exact li.last (by omega)
theorem back07 (hp : okPage p = true) (hy : y.ok) : rowsL (linesL p (bAt p y)) (nssP p y) = encP (bareP p) := by
  have e : encP (bareP p) = (List.range p.length).map fun k => D.tup (((rowAt p k).map (stripL [32])).map D.str) := by
    unfold encP bareP
    conv => lhs; rw [← page_rows07 p]
    rw [List.map_map, List.map_map]
    rfl
  rw [e]
  unfold rowsL linesL nssP
  rw [List.zip_map', List.map_map]
  refine List.map_congr_left fun k hk => ?_
  have hk := List.mem_range.mp hk
  show D.tup (strsD (rowL (lineR p (bAt p y) k) (leftsP p y k))) = _
  rw [back_row07 hp hy hk]
  rfl
theorem guess07 (hp : okPage p = true) (hy : y.ok) (h2 : 2 ≤ y.g) (hn : ∀ k c, k < p.length → c < cellsIn p k → cellAt p k c ≠ [] ∧ ∀ x ∈ cellAt p k c, x ≠ 32) : guessD (linesL p (bAt p y)) = encP p := by
  have e : encP p = (List.range p.length).map fun k => D.tup ((rowAt p k).map D.str) := by
    unfold encP
    conv => lhs; rw [← page_rows07 p]
    rw [List.map_map]
    rfl
  rw [e]
  unfold guessD linesL
  rw [List.map_map]
  refine List.map_congr_left fun k hk => ?_
  have hk := List.mem_range.mp hk
  have li := lies hp hy hk
  show D.tup (strsD (guessL (lineR p (bAt p y) k))) = _
  have c1 : 1 ≤ cellsIn p k := by
    have := (okRow_parts (rowAt_ok hp hk).1).1
    rw [(rowAt_ok hp hk).2.1] at this
    exact this
  rw [guess_row (F := fun c => (bAt p y k c).toNat) li.fe (fun c hc => ?_) (fun c hc => hn k c hk hc) c1, row_cells07]
  · rfl
  · have a1 := bAt_hi hp (y := y) hk hc
    have a2 := bAt_lo hp (y := y) hk hc
    have f0 := li.fe c (by omega)
    have f1 := li.fe (c + 1) hc
    omega
theorem lefts_good07 (hp : okPage p = true) (hy : y.ok) {k : Nat} (hk : k < p.length) : GdSt (leftsP p y k) ∧ (leftsP p y k).length ≤ 1000 := by
  have li := lies hp hy hk
  have c1 : 1 ≤ cellsIn p k ∧ cellsIn p k ≤ 6 := by
    obtain ⟨r1, r2, _⟩ := okRow_parts (rowAt_ok hp hk).1
    rw [(rowAt_ok hp hk).2.1] at r1 r2
    exact ⟨r1, r2⟩
  refine ⟨⟨?_, ?_, ?_⟩, by rw [leftsP_len]; omega⟩
  · rw [leftsP_at (by omega)]
    simp [sumW]
  · rw [List.pairwise_iff_getElem]
    intro i j hi hj hij
    rw [leftsP_len] at hi hj
    have a := leftsP_at (p := p) (y := y) hi
    have b := leftsP_at (p := p) (y := y) hj
    rw [List.getElem?_eq_getElem (by rw [leftsP_len]; exact hi)] at a
    rw [List.getElem?_eq_getElem (by rw [leftsP_len]; exact hj)] at b
    rw [Option.some.inj a, Option.some.inj b]
    exact li.mono j (Nat.le_of_lt hij) hj
  · intro n hn
    obtain ⟨c, hc, rfl⟩ := List.mem_map.mp hn
    have hc := List.mem_range.mp hc
    have := sumW_b hp hy hk c hc
    omega
theorem lefts_row07 (hp : okPage p = true) (hy : y.ok) {k : Nat} (hk : k < p.length) : natsD (leftsP p y k) = rowI p (sumW p y) k := by
  unfold natsD leftsP rowI
  rw [List.map_map, List.map_map]
  refine List.map_congr_left fun c hc => ?_
  have hc := List.mem_range.mp hc
  have := sumW_b hp hy hk c hc
  show D.int (((sumW p y k c).toNat : Nat) : Int) = D.int (sumW p y k c)
  rw [Int.toNat_of_nonneg this.1]
/-- shown, and read back -/
theorem read07 (hp : okPage p = true) (hy : y.ok) {d : D} {w : List (Nat × List D)} {S : Store} (hd : listOf S d = some (encP p, w)) : ∃ M1 q1 M2 q2 q, m_shown [d, y.enc] S = .ok (.ref q1, S ++ M1) ∧ m_stops [d, y.enc] (S ++ M1) = .ok (.ref q2, S ++ M1 ++ M2) ∧
    m_read_back_k07 [.ref q1, .ref q2] (S ++ M1 ++ M2) = .ok (.ref q, S ++ M1 ++ M2 ++ [.lst (encP (bareP p))]) ∧ q = (S ++ M1 ++ M2).length := by
  obtain ⟨p1, p2, p3⟩ := okPage_parts hp
  obtain ⟨M, e1⟩ := shown22 hp hy hd
  obtain ⟨M1, hM1⟩ : ∃ M1, M1 = M ++ [Ob.lst (strsD (linesL p (bAt p y)))] := ⟨_, rfl⟩
  rw [List.append_assoc, ← hM1] at e1
  obtain ⟨n, M2, e2, hn, la⟩ := stops_rd hp hy (listOf_stays (Stays.app S M1) hd)
  have g1 : (S ++ M1)[S.length + M.length]? = some (.lst (strsD (linesL p (bAt p y)))) := by
    rw [hM1, List.getElem?_append_right (by omega), Nat.add_sub_cancel_left, List.getElem?_append_right (Nat.le_refl _), Nat.sub_self]; rfl
  refine ⟨M1, S.length + M.length, M2, n, (S ++ M1 ++ M2).length, e1, e2, ?_, rfl⟩
  have nl : (nssP p y).length = p.length := by simp [nssP]
  rw [read_backR (ls := linesL p (bAt p y)) (nss := nssP p y) (get_app g1) la.1 (by rw [refs_len, nl]) (fun i ns hi => ?_) (by rw [linesL_len]; exact p2) (linesL_ok hp hy) (by rw [nl, linesL_len]) (fun ns hns => ?_), back07 hp hy]
  · have hl := (List.getElem?_eq_some_iff.mp hi).1
    rw [nl] at hl
    unfold nssP at hi
    rw [List.getElem?_map, List.getElem?_range hl] at hi
    cases hi
    exact ⟨n + 1 + i, refs_get hl, by rw [lefts_row07 hp hy hl]; exact la.2 i hl⟩
  · obtain ⟨k, hk, rfl⟩ := List.mem_map.mp hns
    exact lefts_good07 hp hy (List.mem_range.mp hk)
end
end Dl
namespace Dl
open PySem L2
def t7_0 : SV := sPar 3 4 (aCons (eCall 2 m_law_page (aCons (eV 1) (aCons (eOp ixG (eLst false (aCons (eC (.int 6)) (aCons (eC (.int 30)) (aNil)))) (eCall 2 m_law_take (aCons (eV 1) (aCons (eC (.int 2)) (aNil))))) (aNil)))) (aCons (eCall 1 m_law_style (aCons (eV 1) (aNil))) (aNil)))
def t7_1 : SV := sAsg (eCall 1 m_law_bare (aCons (eV 3) (aNil))) (gN 5)
def t7_2 : SV := sIf (tNotD (tv (eCall 2 m_law_alike (aCons (eCall 2 m_read_back_k07 (aCons (eCall 2 m_shown (aCons (eV 5) (aCons (eV 4) (aNil)))) (aCons (eCall 2 m_stops (aCons (eV 5) (aCons (eV 4) (aNil)))) (aNil)))) (aCons (eV 5) (aNil)))))) (sRet (eC (.bl false))) (sNext)
def t7_3 : SV := sIf (tNotD (tv (eCall 2 m_law_alike (aCons (eCall 2 m_read_back_k07 (aCons (eCall 2 m_shown (aCons (eV 3) (aCons (eV 4) (aNil)))) (aCons (eCall 2 m_stops (aCons (eV 3) (aCons (eV 4) (aNil)))) (aNil)))) (aCons (eV 5) (aNil)))))) (sRet (eC (.bl false))) (sNext)
def t7_4 : SV := sPar 6 7 (aCons (eCall 1 m_law_plain (aCons (eV 3) (aNil))) (aCons (eTup (aCons (eOp (addG false) (eC (.int 2)) (eOp divG (eOp ixG (eV 4) (eC (.int 0))) (eC (.int 2)))) (aCons (eOp ixG (eV 4) (eC (.int 1))) (aNil)))) (aNil)))
def t7_5 : SV := sIf (tNotD (tv (eCall 2 m_law_alike (aCons (eCall 1 m_guessed (aCons (eCall 2 m_shown (aCons (eV 6) (aCons (eV 7) (aNil)))) (aNil))) (aCons (eV 6) (aNil)))))) (sRet (eC (.bl false))) (sNext)
def t7_6 : SV := sIf (tv (eOp (eqG true) (eCall 2 m_shown (aCons (eCall 2 m_read_back_k07 (aCons (eCall 2 m_shown (aCons (eV 5) (aCons (eV 4) (aNil)))) (aCons (eCall 2 m_stops (aCons (eV 5) (aCons (eV 4) (aNil)))) (aNil)))) (aCons (eV 4) (aNil)))) (eCall 2 m_shown (aCons (eV 5) (aCons (eV 4) (aNil)))))) (sRet (eC (.bl false))) (sNext)
def turn7 : SV := sCons t7_0 (sCons t7_1 (sCons t7_2 (sCons t7_3 (sCons t7_4 (sCons t7_5 t7_6)))))
theorem l07_eq : d_law_k07 m_law_begun m_law_page m_law_take m_law_style m_law_bare m_law_alike m_read_back_k07 m_stops m_shown m_law_plain m_guessed = sCons (sAsg (eCall 1 m_law_begun (aCons (eV 0) (aNil))) (gN 1)) (sCons (sFor (iR1 (aCons (eC (.int 4)) (aNil))) (gN 2) turn7) (sRet (eC (.bl true)))) := rfl
abbrev eT7 (c0 c2 c3 c4 c5 c6 c7 : Option D) : Env := [c0, some (.ref 1), c2, c3, c4, c5, c6, c7]
theorem plain_cells07 {p : Page} {k c : Nat} (hk : k < (plainP p).length) (hc : c < cellsIn (plainP p) k) : cellAt (plainP p) k c ≠ [] ∧ ∀ x ∈ cellAt (plainP p) k c, x ≠ 32 := by
  have e : cellAt (plainP p) k c ∈ rowAt (plainP p) k := by
    rw [← row_cells07]
    exact List.mem_map.mpr ⟨c, List.mem_range.mpr hc, rfl⟩
  have e2 : rowAt (plainP p) k ∈ (List.range (plainP p).length).map (rowAt (plainP p)) := List.mem_map.mpr ⟨k, List.mem_range.mpr hk, rfl⟩
  rw [page_rows07] at e2
  obtain ⟨r, _, hr⟩ := List.mem_map.mp e2
  rw [← hr] at e
  obtain ⟨s, _, hs⟩ := List.mem_map.mp e
  rw [← hs]
  exact rep_no07 s
section
variable {c0 c2 c3 c4 c5 c6 c7 : Option D}
theorem turn07 (b : Box) (Z : Store) : ∃ b' Z' c3' c4' c5' c6' c7', turn7 (eT7 c0 c2 c3 c4 c5 c6 c7) (Bx b Z) = .nx (eT7 c0 c2 c3' c4' c5' c6' c7') (Bx b' Z') := by
  have two : (2 : Nat) ≤ LIM := by decide
  -- page, style
  have t0 := take_eq b Z 2 (by decide) (by decide)
  obtain ⟨x, ex, mx⟩ := atI_mem (l := [D.int 6, D.int 30]) (i := (tk b 2).1) (tk_lo b (by decide)) (tk_hi b (by decide))
  generalize (tk b 2).2 = b1 at t0
  generalize (tk b 2).1 = i0 at t0 ex
  obtain ⟨m, rfl, m1, m2⟩ : ∃ m : Int, x = .int m ∧ 1 ≤ m ∧ m ≤ 30 := by
    simp only [List.mem_cons, List.not_mem_nil, or_false] at mx
    rcases mx with rfl | rfl
    · exact ⟨6, rfl, by decide, by decide⟩
    · exact ⟨30, rfl, by decide, by decide⟩
  obtain ⟨p, b2, hp, _, ep⟩ := page_ok b1 Z m m1 m2
  obtain ⟨K, hK⟩ : ∃ K, K = Z.length + 2 := ⟨_, rfl⟩
  rw [← hK] at ep
  obtain ⟨Z1, hZ1⟩ : ∃ Z1, Z1 = Z ++ [Ob.lst (encP p)] := ⟨_, rfl⟩
  rw [← hZ1] at ep
  obtain ⟨y, b3, hy, ey⟩ := style_ok b2 Z1
  have s0 : t7_0 (eT7 c0 c2 c3 c4 c5 c6 c7) (Bx b Z) = .nx (eT7 c0 c2 (some (.ref K)) (some y.enc) c5 c6 c7) (Bx b3 Z1) := by
    unfold t7_0
    generalize y.enc = YE at ey ⊢
    simp [two, newL, t0, ixL, ex, ep, ey]
  obtain ⟨S, hS⟩ : ∃ S, S = Bx b3 Z1 := ⟨_, rfl⟩
  rw [← hS] at s0
  have gK : S[K]? = some (.lst (encP p)) := by rw [hS, hK, hZ1, Bx_get]; simp
  have hd : ∀ M, listOf (S ++ M) (.ref K) = some (encP p, [(K, encP p)]) := fun M => by
    have : (S ++ M)[K]? = some (.lst (encP p)) := get_app gK
    simp only [listOf, this]
  have hd0 : listOf S (.ref K) = some (encP p, [(K, encP p)]) := by simp only [listOf, gK]
  -- bare
  have bp := bare_ok07 hp
  obtain ⟨B, hB⟩ : ∃ B, B = D.lst (encP (bareP p)) := ⟨_, rfl⟩
  have eb := bare07 hp hd0
  rw [← hB] at eb
  have hB0 : ∀ S : Store, listOf S B = some (encP (bareP p), []) := fun S => by rw [hB]; rfl
  have s1 : t7_1 (eT7 c0 c2 (some (.ref K)) (some y.enc) c5 c6 c7) S = .nx (eT7 c0 c2 (some (.ref K)) (some y.enc) (some B) c6 c7) S := by
    unfold t7_1
    refine (sAsgN_at (x := B) (sx := S) ?_).trans rfl
    simp [eb]
  -- shown and read back: the bare one
  obtain ⟨A1, q1, A2, q2, q3, r1, r2, r3, hq3⟩ := read07 bp hy (hB0 S)
  rw [bare_twice] at r3
  obtain ⟨S2, hS2⟩ : ∃ S2, S2 = S ++ A1 ++ A2 ++ [Ob.lst (encP (bareP p))] := ⟨_, rfl⟩
  rw [← hS2] at r3
  have g3 : S2[q3]? = some (.lst (encP (bareP p))) := by rw [hS2, hq3]; simp
  have al1 : m_law_alike [.ref q3, B] S2 = .ok (.bl true, S2) := alike_page (n := 5) (w := [(q3, encP (bareP p))]) (by simp only [listOf, g3]) (hB0 S2) bp
  have s2 : t7_2 (eT7 c0 c2 (some (.ref K)) (some y.enc) (some B) c6 c7) S = .nx (eT7 c0 c2 (some (.ref K)) (some y.enc) (some B) c6 c7) S2 := by
    unfold t7_2
    generalize y.enc = YE at r1 r2 ⊢
    generalize S ++ A1 ++ A2 = T2 at r2 r3
    generalize S ++ A1 = T1 at r1 r2
    rw [sIf_at (b := false) (sx := S2) (by simp [r1, r2, r3, al1]), if_neg (by decide)]
    rfl
  -- the page itself
  have hS2' : ∃ M, S2 = S ++ M := ⟨A1 ++ A2 ++ [Ob.lst (encP (bareP p))], by rw [hS2]; simp⟩
  obtain ⟨N2, hN2⟩ := hS2'
  have hd2 : listOf S2 (.ref K) = some (encP p, [(K, encP p)]) := by rw [hN2]; exact hd N2
  obtain ⟨A3, q4, A4, q5, q6, r4, r5, r6, hq6⟩ := read07 hp hy hd2
  obtain ⟨S3, hS3⟩ : ∃ S3, S3 = S2 ++ A3 ++ A4 ++ [Ob.lst (encP (bareP p))] := ⟨_, rfl⟩
  rw [← hS3] at r6
  have g6 : S3[q6]? = some (.lst (encP (bareP p))) := by rw [hS3, hq6]; simp
  have al2 : m_law_alike [.ref q6, B] S3 = .ok (.bl true, S3) := alike_page (n := 5) (w := [(q6, encP (bareP p))]) (by simp only [listOf, g6]) (hB0 S3) bp
  have s3 : t7_3 (eT7 c0 c2 (some (.ref K)) (some y.enc) (some B) c6 c7) S2 = .nx (eT7 c0 c2 (some (.ref K)) (some y.enc) (some B) c6 c7) S3 := by
    unfold t7_3
    generalize y.enc = YE at r4 r5 ⊢
    generalize S2 ++ A3 ++ A4 = T2 at r5 r6
    generalize S2 ++ A3 = T1 at r4 r5
    rw [sIf_at (b := false) (sx := S3) (by simp [r4, r5, r6, al2]), if_neg (by decide)]
    rfl
  -- plain
  obtain ⟨N3, hN3⟩ : ∃ M, S3 = S ++ M := ⟨N2 ++ (A3 ++ A4 ++ [Ob.lst (encP (bareP p))]), by rw [hS3, hN2]; simp⟩
  have hd3 : listOf S3 (.ref K) = some (encP p, [(K, encP p)]) := by rw [hN3]; exact hd N3
  have epl := plain07 hp hd3
  obtain ⟨⟨y0, y1⟩, y2, y3⟩ := hy
  obtain ⟨y', hy'⟩ : ∃ y' : Sty, y' = ⟨2 + y.g / 2, y.l⟩ := ⟨_, rfl⟩
  have yo' : y'.ok := by
    rw [hy']
    refine ⟨⟨?_, ?_⟩, y2, y3⟩
    · show 0 ≤ 2 + y.g / 2; omega
    · show 2 + y.g / 2 ≤ 4; omega
  have y2' : 2 ≤ y'.g := by rw [hy']; show 2 ≤ 2 + y.g / 2; omega
  obtain ⟨S4, hS4⟩ : ∃ S4, S4 = S3 ++ [Ob.lst (encP (plainP p))] := ⟨_, rfl⟩
  rw [← hS4] at epl
  obtain ⟨P, hP⟩ : ∃ P, P = S3.length := ⟨_, rfl⟩
  rw [← hP] at epl
  have s4 : t7_4 (eT7 c0 c2 (some (.ref K)) (some y.enc) (some B) c6 c7) S3 = .nx (eT7 c0 c2 (some (.ref K)) (some y.enc) (some B) (some (.ref P)) (some y'.enc)) S4 := by
    unfold t7_4
    have dv : ∀ S : Store, divG S (.int y.g) (.int 2) = .ok (.int (y.g / 2), S) := fun S => by
      unfold divG
      simp
    have ad : ∀ (S : Store) (a c : Int), addG false S (.int a) (.int c) = .ok (.int (a + c), S) := fun _ _ _ => rfl
    have e' : y'.enc = .tup [.int (2 + y.g / 2), .int y.l] := by rw [hy']; rfl
    have ye : y.enc = .tup [.int y.g, .int y.l] := rfl
    have i0 : ∀ S, ixG S (.tup [.int y.g, .int y.l]) (.int 0) = .ok (.int y.g, S) := fun _ => rfl
    have i1 : ∀ S, ixG S (.tup [.int y.g, .int y.l]) (.int 1) = .ok (.int y.l, S) := fun _ => rfl
    rw [e', ye]
    simp [epl, i0, i1, dv, ad, two]
  -- guessed
  have pp := plain_ok07 hp
  have gP : S4[P]? = some (.lst (encP (plainP p))) := by rw [hS4, hP]; simp
  have hd4 : listOf S4 (.ref P) = some (encP (plainP p), [(P, encP (plainP p))]) := by simp only [listOf, gP]
  obtain ⟨M5, e5⟩ := shown22 pp yo' hd4
  obtain ⟨S5, hS5⟩ : ∃ S5, S5 = S4 ++ M5 ++ [Ob.lst (strsD (linesL (plainP p) (bAt (plainP p) y')))] := ⟨_, rfl⟩
  rw [← hS5] at e5
  have g5 : S5[S4.length + M5.length]? = some (.lst (strsD (linesL (plainP p) (bAt (plainP p) y')))) := by rw [hS5, ← List.length_append]; simp
  have eg := le_guessed.ok (guessed_ok (st := S5) (d := .ref (S4.length + M5.length)) (w := [(S4.length + M5.length, strsD (linesL (plainP p) (bAt (plainP p) y')))]) (by simp only [listOf, g5]) (by rw [linesL_len]; exact (okPage_parts pp).2.1) (linesL_ok pp yo'))
  rw [guess07 pp yo' y2' (fun k c hk hc => plain_cells07 hk hc)] at eg
  obtain ⟨S6, hS6⟩ : ∃ S6, S6 = S5 ++ [Ob.lst (encP (plainP p))] := ⟨_, rfl⟩
  rw [← hS6] at eg
  have g6' : S6[S5.length]? = some (.lst (encP (plainP p))) := by rw [hS6]; simp
  have gP6 : S6[P]? = some (.lst (encP (plainP p))) := by rw [hS6]; exact get_app (by rw [hS5, List.append_assoc]; exact get_app gP)
  have al3 : m_law_alike [.ref S5.length, .ref P] S6 = .ok (.bl true, S6) := alike_page (n := 5) (w := [(S5.length, encP (plainP p))]) (w' := [(P, encP (plainP p))]) (by simp only [listOf, g6']) (by simp only [listOf, gP6]) pp
  have s5 : t7_5 (eT7 c0 c2 (some (.ref K)) (some y.enc) (some B) (some (.ref P)) (some y'.enc)) S4 = .nx (eT7 c0 c2 (some (.ref K)) (some y.enc) (some B) (some (.ref P)) (some y'.enc)) S6 := by
    unfold t7_5
    generalize y'.enc = YE at e5 ⊢
    generalize S5.length = L5 at eg al3
    generalize S4.length + M5.length = L4 at e5 eg
    rw [sIf_at (b := false) (sx := S6) (by simp [e5, eg, al3]), if_neg (by decide)]
    rfl
  -- shown again
  have yy : y.ok := ⟨⟨y0, y1⟩, y2, y3⟩
  obtain ⟨A7, q7, A8, q8, q9, r7, r8, r9, hq9⟩ := read07 bp yy (hB0 S6)
  rw [bare_twice] at r9
  obtain ⟨S7, hS7⟩ : ∃ S7, S7 = S6 ++ A7 ++ A8 ++ [Ob.lst (encP (bareP p))] := ⟨_, rfl⟩
  rw [← hS7] at r9
  have g9 : S7[q9]? = some (.lst (encP (bareP p))) := by rw [hS7, hq9]; simp
  obtain ⟨M8, e8⟩ := shown22 bp yy (d := .ref q9) (S := S7) (w := [(q9, encP (bareP p))]) (by simp only [listOf, g9])
  obtain ⟨LL, hLL⟩ : ∃ LL, LL = strsD (linesL (bareP p) (bAt (bareP p) y)) := ⟨_, rfl⟩
  rw [← hLL] at e8
  obtain ⟨S8, hS8⟩ : ∃ S8, S8 = S7 ++ M8 ++ [Ob.lst LL] := ⟨_, rfl⟩
  rw [← hS8] at e8
  obtain ⟨M9, e9⟩ := shown22 bp yy (hB0 S8)
  rw [← hLL] at e9
  obtain ⟨S9, hS9⟩ : ∃ S9, S9 = S8 ++ M9 ++ [Ob.lst LL] := ⟨_, rfl⟩
  rw [← hS9] at e9
  have ga : S9[S7.length + M8.length]? = some (.lst LL) := by
    rw [hS9, List.append_assoc]
    refine get_app ?_
    rw [hS8, ← List.length_append]; simp
  have gb : S9[S8.length + M9.length]? = some (.lst LL) := by rw [hS9, ← List.length_append]; simp
  have eqL : eqG true S9 (.ref (S7.length + M8.length)) (.ref (S8.length + M9.length)) = .ok (.bl false, S9) := by
    have dp := dps_strs (linesL (bareP p) (bAt (bareP p) y))
    have pl : D.pl (.lst LL) = true := by rw [hLL]; show D.pl (.lst ((linesL (bareP p) (bAt (bareP p) y)).map D.str)) = true; simp
    have d4 : D.dp (.lst LL) ≤ 40 := by rw [hLL]; show D.dp (.lst ((linesL (bareP p) (bAt (bareP p) y)).map D.str)) ≤ 40; rw [dp_lst]; omega
    rw [eqG_refL ga, eqG_refR gb, eqG_pl pl pl d4 d4, if_pos rfl]
    simp
  have s6 : t7_6 (eT7 c0 c2 (some (.ref K)) (some y.enc) (some B) (some (.ref P)) (some y'.enc)) S6 = .nx (eT7 c0 c2 (some (.ref K)) (some y.enc) (some B) (some (.ref P)) (some y'.enc)) S9 := by
    unfold t7_6
    generalize y.enc = YE at r7 r8 e8 e9 ⊢
    generalize y'.enc = YE'
    generalize S8.length + M9.length = L9 at e9 eqL
    generalize S7.length + M8.length = L8 at e8 eqL
    generalize S6 ++ A7 ++ A8 = T2 at r8 r9
    generalize S6 ++ A7 = T1 at r7 r8
    rw [sIf_at (b := false) (sx := S9) (by simp [r7, r8, r9, e8, e9, eqL]), if_neg (by decide)]
    rfl
  obtain ⟨N9, hN9⟩ : ∃ M, S9 = S ++ M := ⟨_, by rw [hS9, hS8, hS7, hS6, hS5, hS4, hN3]; simp only [List.append_assoc]; rfl⟩
  refine ⟨b3, Z1 ++ N9, some (.ref K), some y.enc, some B, some (.ref P), some y'.enc, ?_⟩
  unfold turn7
  rw [sCons_nx s0, sCons_nx s1, sCons_nx s2, sCons_nx s3, sCons_nx s4, sCons_nx s5, s6, hN9, hS]
  rfl
end
theorem law_k07_true (ns : List Int) (_ : ns.length ≤ 63) : ∃ st, m_law_k07 [.scr ns] [] = .ok (.bl true, st) := by
  unfold m_law_k07 funD
  rw [l07_eq]
  obtain ⟨b0, hb⟩ := begun_ok ns
  have hstart : (List.map some [D.scr ns] ++ List.replicate (8 - [D.scr ns].length) none : Env) = [some (.scr ns), none, none, none, none, none, none, none] := rfl
  rw [hstart]
  have s0 : sAsg (eCall 1 m_law_begun (aCons (eV 0) (aNil))) (gN 1) [some (.scr ns), none, none, none, none, none, none, none] [] = .nx (eT7 (some (.scr ns)) none none none none none none) (Bx b0 []) :=
    (sAsgN_at (x := .ref 1) (sx := Bx b0 []) (by simp [hb])).trans rfl
  rw [sCons_nx s0, r_sCons]
  have eF : sFor (iR1 (aCons (eC (.int 4)) (aNil))) (gN 2) turn7 (eT7 (some (.scr ns)) none none none none none none) (Bx b0 []) = forGo [] (gN 2) turn7 (intsD 0 4) (eT7 (some (.scr ns)) none none none none none none) (Bx b0 []) := by
    have p4 : (-1000000 : Int) ≤ 4 ∧ (4 : Int) ≤ 1000000 := by decide
    generalize turn7 = body
    simp [p4]
  rw [eF]
  generalize hfr : forGo _ _ _ _ _ _ = rr
  obtain ⟨e, s, rfl, b', Z', rfl, _⟩ := for_at hfr (fun i env st' => ∃ (b' : Box) (Z' : Store), st' = Bx b' Z' ∧ ∃ c2 c3 c4 c5 c6 c7, env = eT7 (some (.scr ns)) c2 c3 c4 c5 c6 c7)
    ⟨b0, [], rfl, none, none, none, none, none, none, rfl⟩ (fun _ _ _ _ _ => rfl) (fun i x env st' hii ⟨b', Z', e1, c2, c3, c4, c5, c6, c7, e2⟩ => by
      subst e1 e2
      rw [r_gN]
      have set2 : ∀ dd, (eT7 (some (.scr ns)) c2 c3 c4 c5 c6 c7).set 2 (some dd) = eT7 (some (.scr ns)) (some dd) c3 c4 c5 c6 c7 := fun _ => rfl
      simp only [sOf_m, set2]
      obtain ⟨b2, Z2, d3, d4, d5, d6, d7, e⟩ := turn07 (c0 := some (.scr ns)) (c2 := some x) (c3 := c3) (c4 := c4) (c5 := c5) (c6 := c6) (c7 := c7) b' Z'
      exact turn_eq e ⟨b2, Z2, rfl, _, d3, d4, d5, d6, d7, rfl⟩)
  rw [then_nx]
  exact ⟨Bx b' Z', by simp⟩
end Dl
set_option maxHeartbeats 1000000
namespace W07
open PySem L2 Dl
def top (i : Nat) : Stmt := PySem.Challenge.pw_tabgrow_k07_whole_what_is_shown_is_read.main.body.getD i (.Pass ⟨0, 0, 0, 0⟩)
abbrev s_law_begun : Stmt := top 41
abbrev s_law_take : Stmt := top 42
abbrev s_law_sign : Stmt := top 44
abbrev s_law_cell : Stmt := top 45
abbrev s_law_row : Stmt := top 46
abbrev s_law_page : Stmt := top 47
abbrev s_law_style : Stmt := top 48
abbrev s_law_bare : Stmt := top 49
abbrev s_law_alike : Stmt := top 43
abbrev s_is_sign : Stmt := top 17
abbrev s_is_line : Stmt := top 35
abbrev s_need_lines : Stmt := top 36
abbrev s_is_number : Stmt := top 16
abbrev s_is_stops : Stmt := top 37
abbrev s_read_back : Stmt := top 38
abbrev s_is_cell : Stmt := top 18
abbrev s_is_row : Stmt := top 19
abbrev s_need_page : Stmt := top 20
abbrev s_need_style : Stmt := top 21
abbrev s_Stretch_width : Stmt := inClass (top 24) 1
abbrev s_stops_by : Stmt := top 29
abbrev s_Stretch_init : Stmt := inClass (top 24) 0
abbrev s_stretches_of : Stmt := top 25
abbrev s_all_stretches : Stmt := top 26
abbrev s_stops : Stmt := top 31
abbrev s_is_figures : Stmt := top 22
abbrev s_Stretch_is_right : Stmt := inClass (top 24) 2
abbrev s_begins_by : Stmt := top 30
abbrev s_laid : Stmt := top 32
abbrev s_line_of : Stmt := top 33
abbrev s_shown : Stmt := top 34
abbrev s_law_plain : Stmt := top 50
abbrev s_guessed : Stmt := top 39
abbrev s_law : Stmt := top 51
structure Txt (W : Wd) (mg : Str → Option Value) : Prop where
  b_len : mg "len" = none
  b_int : mg "int" = none
  b_list : mg "list" = none
  b_str : mg "str" = none
  b_range : mg "range" = none
  b_tuple : mg "tuple" = none
  b_min : mg "min" = none
  b_max : mg "max" = none
  b_bool : mg "bool" = none
  b_isinstance : mg "isinstance" = none
  b_ord : mg "ord" = none
  b_enumerate : mg "enumerate" = none
  b_zip : mg "zip" = none
  k_FIRST_SIGN : ∃ t, mg "FIRST_SIGN" = some (.str " " t)
  k_LAST_SIGN : ∃ t, mg "LAST_SIGN" = some (.str "~" t)
  k_BARRED : ∃ t, mg "BARRED" = some (.int (37) t)
  k_MOST_WIDE : ∃ t, mg "MOST_WIDE" = some (.int (200) t)
  k_MOST_ROWS : ∃ t, mg "MOST_ROWS" = some (.int (30) t)
  k_MOST_SIGNS : ∃ t, mg "MOST_SIGNS" = some (.int (10) t)
  k_MOST_CELLS : ∃ t, mg "MOST_CELLS" = some (.int (6) t)
  k_MOST_GAP : ∃ t, mg "MOST_GAP" = some (.int (4) t)
  k_MOST_LEAST : ∃ t, mg "MOST_LEAST" = some (.int (12) t)
  k_FIGURES : ∃ t, mg "FIGURES" = some (.str "0123456789" t)
  cl_Stretch : Cls W.K (W.cls 12)
  na_Stretch_cells : NoAttr W.K (W.cls 12) "cells"
  na_Stretch_end : NoAttr W.K (W.cls 12) "end"
  na_Stretch_begin : NoAttr W.K (W.cls 12) "begin"
  na_Stretch_column : NoAttr W.K (W.cls 12) "column"
section
variable {P : Program} {w : World} {W : Wd} {mg : Str → Option Value} {base : Heap}
theorem sc_law_begun : FnScope ["_law_script", "_law_stirred", "_law_cell_here"] ["_law_script"] (defScope s_law_begun) := ⟨rfl, rfl, rfl, by decide +kernel, rfl, by decide +kernel, by decide +kernel⟩
theorem ok_law_begun {f : Addr} {fd : FuncData} (F : Fun W.K "_law_begun" "_law_begun" s_law_begun f fd) (m : mg "_law_begun" = some (.ref f)) (T : Txt W mg)  : Fn P w W mg base "_law_begun" (1) 1 (funD 3 d_law_begun) :=
  ⟨f, fd, ["_law_script"], fnE F sc_law_begun rfl rfl fun cdv A outer sh H E hr => db_cons (ds_set sc_law_begun.nd rfl (by first | exact Or.inl rfl | exact Or.inr rfl) (de_int)) (db_cons (ds_for passF rfl (di_seq (dv 0)) (dg_name sc_law_begun.nd rfl (by first | exact Or.inl rfl | exact Or.inr rfl)) (db_one (ds_set sc_law_begun.nd rfl (by first | exact Or.inl rfl | exact Or.inr rfl) (de_op dop_mod (de_op (dop_add true) (de_op (dop_add true) (de_op (dop_mul true) (dv 1) (de_int)) (de_op (dop_mul true) (dv 2) (de_int))) (de_int)) (de_int))))) (db_one (ds_ret (de_lst true (da_cons (de_callTy (dc_list true) (by rfl) T.b_list (by decide +kernel) (da_cons (dv 0) (da_nil)) (fun a b => pe_callTy a (by rfl) T.b_list (by decide +kernel) b)) (da_cons (de_op (dop_mul true) (dv 1) (de_callTy dc_int (by rfl) T.b_int (by decide +kernel) (da_cons (de_cmp dop_gt (de_callB dc_len (by rfl) T.b_len (by decide +kernel) (da_cons (dv 0) (da_nil)) (fun a b => pe_callB a (by rfl) T.b_len (by decide +kernel) b)) (de_int) (nomark _)) (da_nil)) (fun a b => pe_callTy a (by rfl) T.b_int (by decide +kernel) b))) (da_nil))))))), m, F.kp, F.binds (ps := ["_law_script"]) fun _ _ _ _ _ _ us hl => match us, hl with | [_], _ => rfl⟩
theorem sc_law_take : FnScope ["_law_box", "_law_many", "_law_number"] ["_law_box", "_law_many"] (defScope s_law_take) := ⟨rfl, rfl, rfl, by decide +kernel, rfl, by decide +kernel, by decide +kernel⟩
theorem ok_law_take {f : Addr} {fd : FuncData} (F : Fun W.K "_law_take" "_law_take" s_law_take f fd) (m : mg "_law_take" = some (.ref f)) (T : Txt W mg)  : Fn P w W mg base "_law_take" (1) 2 (funD 3 d_law_take) :=
  ⟨f, fd, ["_law_box", "_law_many"], fnE F sc_law_take rfl rfl fun cdv A outer sh H E hr => db_cons (ds_if (dt_cmp (dop_eq rfl hr.units) (de_ix rfl (dv 0) (de_int) (fun _ _ => rfl)) (de_lst false (da_nil)) (nomark _)) (db_cons (ds_asg (de_op dop_mod (de_op (dop_mul false) (de_ix rfl (dv 0) (de_int) (fun _ _ => rfl)) (de_int)) (de_int)) (dg_sub (dv 0) (de_int) dset_list)) (db_one (ds_ret (de_op dop_mod (de_op dop_div (de_ix rfl (dv 0) (de_int) (fun _ _ => rfl)) (de_int)) (dv 1))))) (db_nil)) (db_cons (ds_set sc_law_take.nd rfl (by first | exact Or.inl rfl | exact Or.inr rfl) (de_ix rfl (de_ix rfl (dv 0) (de_int) (fun _ _ => rfl)) (de_int) (fun _ _ => rfl))) (db_cons (ds_asg (de_op dop_div (dv 2) (dv 1)) (dg_sub (de_ix rfl (dv 0) (de_int) (fun _ _ => rfl)) (de_int) dset_list)) (db_cons (ds_if (dt_w (dw_or (dt_cmp (dop_eq rfl hr.units) (de_ix rfl (de_ix rfl (dv 0) (de_int) (fun _ _ => rfl)) (de_int) (fun _ _ => rfl)) (de_int) (nomark _)) (dw_or1 (dt_cmp (dop_eq rfl hr.units) (de_ix rfl (de_ix rfl (dv 0) (de_int) (fun _ _ => rfl)) (de_int) (fun _ _ => rfl)) (de_neg (de_int)) (nomark _))))) (db_one (ds_expr (de_mt PySem.F.plainAttrs_list PySem.F.slot_list_pop PySem.F.type_list_pop (dm_pop) (de_ix rfl (dv 0) (de_int) (fun _ _ => rfl)) (da_cons (de_int) (da_nil)) (fun a b c => pe_bm PySem.F.plainAttrs_list PySem.F.slot_list_pop PySem.F.type_list_pop a b c)))) (db_nil)) (db_one (ds_ret (de_op dop_mod (dv 2) (dv 1))))))), m, F.kp, F.binds (ps := ["_law_box", "_law_many"]) fun _ _ _ _ _ _ us hl => match us, hl with | [_, _], _ => rfl⟩
theorem sc_law_sign : FnScope ["_law_box", "_law_every"] ["_law_box"] (defScope s_law_sign) := ⟨rfl, rfl, rfl, by decide +kernel, rfl, by decide +kernel, by decide +kernel⟩
theorem ok_law_sign {m_law_take : FV} {f : Addr} {fd : FuncData} (F : Fun W.K "_law_sign" "_law_sign" s_law_sign f fd) (m : mg "_law_sign" = some (.ref f)) (T : Txt W mg) (c_law_take : Fn P w W mg base "_law_take" 1 2 m_law_take) : Fn P w W mg base "_law_sign" (2) 1 (funD 2 (d_law_sign m_law_take)) :=
  ⟨f, fd, ["_law_box"], fnE F sc_law_sign rfl rfl fun cdv A outer sh H E hr => db_cons (ds_set sc_law_sign.nd rfl (by first | exact Or.inl rfl | exact Or.inr rfl) (de_str (by decide +kernel) (by decide +kernel))) (db_one (ds_ret (de_ix rfl (dv 1) (dcall c_law_take hr passD (da_cons (dv 0) (da_cons (de_int) (da_nil)))) (fun _ _ => rfl)))), m, F.kp, F.binds (ps := ["_law_box"]) fun _ _ _ _ _ _ us hl => match us, hl with | [_], _ => rfl⟩
theorem sc_law_cell : FnScope ["_law_box", "_law_sort", "_law_way", "_law_odd", "_law_many", "_law_k"] ["_law_box", "_law_sort"] (defScope s_law_cell) := ⟨rfl, rfl, rfl, by decide +kernel, rfl, by decide +kernel, by decide +kernel⟩
theorem ok_law_cell {m_law_take m_law_sign : FV} {f : Addr} {fd : FuncData} (F : Fun W.K "_law_cell" "_law_cell" s_law_cell f fd) (m : mg "_law_cell" = some (.ref f)) (T : Txt W mg) (c_law_take : Fn P w W mg base "_law_take" 1 2 m_law_take) (c_law_sign : Fn P w W mg base "_law_sign" 2 1 m_law_sign) : Fn P w W mg base "_law_cell" (3) 2 (funD 6 (d_law_cell m_law_take m_law_sign)) :=
  ⟨f, fd, ["_law_box", "_law_sort"], fnE F sc_law_cell rfl rfl fun cdv A outer sh H E hr => db_cons (ds_set sc_law_cell.nd rfl (by first | exact Or.inl rfl | exact Or.inr rfl) (dcall c_law_take hr passD (da_cons (dv 0) (da_cons (de_int) (da_nil))))) (db_cons (ds_if (dt_cmp (dop_eq rfl hr.units) (dv 2) (de_int) (nomark _)) (db_one (ds_ret (de_str (by decide +kernel) (by decide +kernel)))) (db_nil)) (db_cons (ds_if (dt_w (dw_or (dt_cmp (dop_eq rfl hr.units) (dv 2) (de_int) (nomark _)) (dw_or1 (dt_w (dw_and (dt_cmp (dop_eq rfl hr.units) (dv 1) (de_int) (nomark _)) (dw_and1 (dt_cmp dop_lt (dv 2) (de_int) (nomark _)))))))) (db_one (ds_ret (de_op (dop_add false) (de_ix rfl (de_lst false (da_cons (de_str (by decide +kernel) (by decide +kernel)) (da_cons (de_str (by decide +kernel) (by decide +kernel)) (da_nil)))) (de_op dop_div (dcall c_law_take hr passD (da_cons (dv 0) (da_cons (de_int) (da_nil)))) (de_int)) (fun _ _ => rfl)) (de_callTy dc_str (by rfl) T.b_str (by decide +kernel) (da_cons (dcall c_law_take hr passD (da_cons (dv 0) (da_cons (de_ix rfl (de_lst false (da_cons (de_int) (da_cons (de_int) (da_cons (de_op dop_pow (de_int) (de_int)) (da_nil))))) (dcall c_law_take hr passD (da_cons (dv 0) (da_cons (de_int) (da_nil)))) (fun _ _ => rfl)) (da_nil)))) (da_nil)) (fun a b => pe_callTy a (by rfl) T.b_str (by decide +kernel) b))))) (db_nil)) (db_cons (ds_if (dt_cmp (dop_eq rfl hr.units) (dv 2) (de_int) (nomark _)) (db_cons (ds_set sc_law_cell.nd rfl (by first | exact Or.inl rfl | exact Or.inr rfl) (de_lst false (da_cons (de_str (by decide +kernel) (by decide +kernel)) (da_cons (de_str (by decide +kernel) (by decide +kernel)) (da_cons (de_str (by decide +kernel) (by decide +kernel)) (da_cons (de_str (by decide +kernel) (by decide +kernel)) (da_cons (de_str (by decide +kernel) (by decide +kernel)) (da_cons (de_str (by decide +kernel) (by decide +kernel)) (da_cons (de_str (by decide +kernel) (by decide +kernel)) (da_cons (de_str (by decide +kernel) (by decide +kernel)) (da_cons (de_str (by decide +kernel) (by decide +kernel)) (da_cons (de_str (by decide +kernel) (by decide +kernel)) (da_cons (de_str (by decide +kernel) (by decide +kernel)) (da_cons (de_str (by decide +kernel) (by decide +kernel)) (da_cons (de_str (by decide +kernel) (by decide +kernel)) (da_nil)))))))))))))))) (db_one (ds_ret (de_ix rfl (dv 3) (dcall c_law_take hr passD (da_cons (dv 0) (da_cons (de_int) (da_nil)))) (fun _ _ => rfl))))) (db_nil)) (db_cons (ds_set sc_law_cell.nd rfl (by first | exact Or.inl rfl | exact Or.inr rfl) (de_op (dop_add false) (de_int) (dcall c_law_take hr passD (da_cons (dv 0) (da_cons (de_ix rfl (de_lst false (da_cons (de_int) (da_cons (de_int) (da_nil)))) (dcall c_law_take hr passD (da_cons (dv 0) (da_cons (de_int) (da_nil)))) (fun _ _ => rfl)) (da_nil)))))) (db_cons (ds_if (dt_cmp dop_lt (dv 2) (de_int) (nomark _)) (db_one (ds_ret (de_mt PySem.F.plainAttrs_str PySem.F.slot_str_join PySem.F.type_str_join (dm_join) (de_str (by decide +kernel) (by decide +kernel)) (da_cons (de_lc false rfl sc_law_cell.nd (di_r1 (by rfl) T.b_range (da_cons (dv 4) (da_nil))) (by exact blkOk_by (N := ["_law_box", "_law_sort", "_law_way", "_law_odd", "_law_many", "_law_k"]) (sc := defScope s_law_cell) (own := [("_law_k", 5)]) (by decide +kernel)) rfl (by decide) (fun _ _ _ _ _ => tg_one sc_law_cell.nd rfl (by first | exact Or.inl rfl | exact Or.inr rfl)) (fun _ _ _ _ _ => dts_nil) (fun _ _ _ _ _ => de_ix rfl (de_str (by decide +kernel) (by decide +kernel)) (dcall c_law_take hr passL (da_cons (dv 0) (da_cons (de_int) (da_nil)))) (fun _ _ => rfl))) (da_nil)) (fun a b c => pe_bm PySem.F.plainAttrs_str PySem.F.slot_str_join PySem.F.type_str_join a b c)))) (db_nil)) (db_one (ds_ret (de_mt PySem.F.plainAttrs_str PySem.F.slot_str_join PySem.F.type_str_join (dm_join) (de_str (by decide +kernel) (by decide +kernel)) (da_cons (de_lc false rfl sc_law_cell.nd (di_r1 (by rfl) T.b_range (da_cons (dv 4) (da_nil))) (by exact blkOk_by (N := ["_law_box", "_law_sort", "_law_way", "_law_odd", "_law_many", "_law_k"]) (sc := defScope s_law_cell) (own := [("_law_k", 5)]) (by decide +kernel)) rfl (by decide) (fun _ _ _ _ _ => tg_one sc_law_cell.nd rfl (by first | exact Or.inl rfl | exact Or.inr rfl)) (fun _ _ _ _ _ => dts_nil) (fun _ _ _ _ _ => dcall c_law_sign hr passL (da_cons (dv 0) (da_nil)))) (da_nil)) (fun a b c => pe_bm PySem.F.plainAttrs_str PySem.F.slot_str_join PySem.F.type_str_join a b c))))))))), m, F.kp, F.binds (ps := ["_law_box", "_law_sort"]) fun _ _ _ _ _ _ us hl => match us, hl with | [_, _], _ => rfl⟩
theorem sc_law_row : FnScope ["_law_box", "_law_sorts", "_law_many", "_law_k"] ["_law_box", "_law_sorts", "_law_many"] (defScope s_law_row) := ⟨rfl, rfl, rfl, by decide +kernel, rfl, by decide +kernel, by decide +kernel⟩
theorem ok_law_row {m_law_cell : FV} {f : Addr} {fd : FuncData} (F : Fun W.K "_law_row" "_law_row" s_law_row f fd) (m : mg "_law_row" = some (.ref f)) (T : Txt W mg) (c_law_cell : Fn P w W mg base "_law_cell" 3 2 m_law_cell) : Fn P w W mg base "_law_row" (4) 3 (funD 4 (d_law_row m_law_cell)) :=
  ⟨f, fd, ["_law_box", "_law_sorts", "_law_many"], fnE F sc_law_row rfl rfl fun cdv A outer sh H E hr => db_one (ds_ret (de_callTy dc_tup (by rfl) T.b_tuple (by decide +kernel) (da_cons (de_lc false rfl sc_law_row.nd (di_r1 (by rfl) T.b_range (da_cons (dv 2) (da_nil))) (by exact blkOk_by (N := ["_law_box", "_law_sorts", "_law_many", "_law_k"]) (sc := defScope s_law_row) (own := [("_law_k", 3)]) (by decide +kernel)) rfl (by decide) (fun _ _ _ _ _ => tg_one sc_law_row.nd rfl (by first | exact Or.inl rfl | exact Or.inr rfl)) (fun _ _ _ _ _ => dts_nil) (fun _ _ _ _ _ => dcall c_law_cell hr passL (da_cons (dv 0) (da_cons (de_ix rfl (dv 1) (dv 3) (fun _ _ => rfl)) (da_nil))))) (da_nil)) (fun a b => pe_callTy a (by rfl) T.b_tuple (by decide +kernel) b))), m, F.kp, F.binds (ps := ["_law_box", "_law_sorts", "_law_many"]) fun _ _ _ _ _ _ us hl => match us, hl with | [_, _, _], _ => rfl⟩
theorem sc_law_page : FnScope ["_law_box", "_law_most", "_law_sorts", "_law_many", "_law_rows", "_law_turn", "_law_way", "_law_k"] ["_law_box", "_law_most"] (defScope s_law_page) := ⟨rfl, rfl, rfl, by decide +kernel, rfl, by decide +kernel, by decide +kernel⟩
theorem ok_law_page {m_law_take m_law_row : FV} {f : Addr} {fd : FuncData} (F : Fun W.K "_law_page" "_law_page" s_law_page f fd) (m : mg "_law_page" = some (.ref f)) (T : Txt W mg) (c_law_take : Fn P w W mg base "_law_take" 1 2 m_law_take) (c_law_row : Fn P w W mg base "_law_row" 4 3 m_law_row) : Fn P w W mg base "_law_page" (5) 2 (funD 8 (d_law_page m_law_take m_law_row)) :=
  ⟨f, fd, ["_law_box", "_law_most"], fnE F sc_law_page rfl rfl fun cdv A outer sh H E hr => db_cons (ds_setLc false rfl sc_law_page.nd rfl rfl (sw_true rfl rfl rfl (by decide +kernel)) (di_r1 (by rfl) T.b_range (da_cons (de_int) (da_nil))) (by exact blkOk_by (N := ["_law_box", "_law_most", "_law_sorts", "_law_many", "_law_rows", "_law_turn", "_law_way", "_law_k"]) (sc := defScope s_law_page) (own := [("_law_k", 7)]) (by decide +kernel)) rfl (by decide) (fun _ _ _ _ _ => tg_one sc_law_page.nd rfl (by first | exact Or.inl rfl | exact Or.inr rfl)) (fun _ _ _ _ _ => dts_nil) (fun _ _ _ _ _ => dcall c_law_take hr passL (da_cons (dv 0) (da_cons (de_int) (da_nil))))) (db_cons (ds_par rfl sc_law_page.nd rfl rfl (by decide) rfl rfl (da_cons (de_op (dop_add false) (de_int) (dcall c_law_take hr passD (da_cons (dv 0) (da_cons (de_int) (da_nil))))) (da_cons (de_lst true (da_nil)) (da_nil))) (by rfl)) (db_cons (ds_for passF rfl (di_r1 (by rfl) T.b_range (da_cons (de_op (dop_add false) (de_int) (dcall c_law_take hr passD (da_cons (dv 0) (da_cons (dv 1) (da_nil))))) (da_nil))) (dg_name sc_law_page.nd rfl (by first | exact Or.inl rfl | exact Or.inr rfl)) (db_cons (ds_set sc_law_page.nd rfl (by first | exact Or.inl rfl | exact Or.inr rfl) (dcall c_law_take hr passD (da_cons (dv 0) (da_cons (de_int) (da_nil))))) (db_cons (ds_set sc_law_page.nd rfl (by first | exact Or.inl rfl | exact Or.inr rfl) (de_ix rfl (de_lst false (da_cons (de_op (dop_add false) (de_int) (dcall c_law_take hr passD (da_cons (dv 0) (da_cons (de_int) (da_nil))))) (da_cons (de_callB (dc_max rfl) (by rfl) T.b_max (by decide +kernel) (da_cons (de_int) (da_cons (de_op dop_sub (dv 3) (de_int)) (da_nil))) (fun a b => pe_callB a (by rfl) T.b_max (by decide +kernel) b)) (da_cons (de_callB (dc_min rfl) (by rfl) T.b_min (by decide +kernel) (da_cons (de_int) (da_cons (de_op (dop_add false) (dv 3) (de_int)) (da_nil))) (fun a b => pe_callB a (by rfl) T.b_min (by decide +kernel) b)) (da_cons (dv 3) (da_nil)))))) (de_callB (dc_min rfl) (by rfl) T.b_min (by decide +kernel) (da_cons (dv 6) (da_cons (de_int) (da_nil))) (fun a b => pe_callB a (by rfl) T.b_min (by decide +kernel) b)) (fun _ _ => rfl))) (db_cons (ds_expr (de_mt PySem.F.plainAttrs_list PySem.F.slot_list_append PySem.F.type_list_append (dm_append) (dv 4) (da_cons (dcall c_law_row hr passD (da_cons (dv 0) (da_cons (dv 2) (da_cons (dv 3) (da_nil))))) (da_nil)) (fun a b c => pe_bm PySem.F.plainAttrs_list PySem.F.slot_list_append PySem.F.type_list_append a b c))) (db_one (ds_if (dt_cmp (dop_eq rfl hr.units) (dv 6) (de_int) (nomark _)) (db_cons (ds_asg (de_ix rfl (dv 4) (dcall c_law_take hr passD (da_cons (dv 0) (da_cons (de_callB dc_len (by rfl) T.b_len (by decide +kernel) (da_cons (dv 4) (da_nil)) (fun a b => pe_callB a (by rfl) T.b_len (by decide +kernel) b)) (da_nil)))) (fun _ _ => rfl)) (dg_sub (dv 4) (de_neg (de_int)) dset_list)) (db_one (ds_set sc_law_page.nd rfl (by first | exact Or.inl rfl | exact Or.inr rfl) (de_callB dc_len (by rfl) T.b_len (by decide +kernel) (da_cons (de_ix rfl (dv 4) (de_neg (de_int)) (fun _ _ => rfl)) (da_nil)) (fun a b => pe_callB a (by rfl) T.b_len (by decide +kernel) b))))) (db_nil))))))) (db_one (ds_ret (dv 4))))), m, F.kp, F.binds (ps := ["_law_box", "_law_most"]) fun _ _ _ _ _ _ us hl => match us, hl with | [_, _], _ => rfl⟩
theorem sc_law_style : FnScope ["_law_box", "_law_gap"] ["_law_box"] (defScope s_law_style) := ⟨rfl, rfl, rfl, by decide +kernel, rfl, by decide +kernel, by decide +kernel⟩
theorem ok_law_style {m_law_take : FV} {f : Addr} {fd : FuncData} (F : Fun W.K "_law_style" "_law_style" s_law_style f fd) (m : mg "_law_style" = some (.ref f)) (T : Txt W mg) (c_law_take : Fn P w W mg base "_law_take" 1 2 m_law_take) : Fn P w W mg base "_law_style" (2) 1 (funD 2 (d_law_style m_law_take)) :=
  ⟨f, fd, ["_law_box"], fnE F sc_law_style rfl rfl fun cdv A outer sh H E hr => db_cons (ds_set sc_law_style.nd rfl (by first | exact Or.inl rfl | exact Or.inr rfl) (de_ix rfl (de_lst false (da_cons (dcall c_law_take hr passD (da_cons (dv 0) (da_cons (de_int) (da_nil)))) (da_cons (de_int) (da_cons (de_int) (da_nil))))) (dcall c_law_take hr passD (da_cons (dv 0) (da_cons (de_int) (da_nil)))) (fun _ _ => rfl))) (db_one (ds_ret (de_tup (da_cons (dv 1) (da_cons (de_ix rfl (de_lst false (da_cons (de_int) (da_cons (dcall c_law_take hr passD (da_cons (dv 0) (da_cons (de_int) (da_nil)))) (da_cons (dcall c_law_take hr passD (da_cons (dv 0) (da_cons (de_int) (da_nil)))) (da_nil))))) (dcall c_law_take hr passD (da_cons (dv 0) (da_cons (de_int) (da_nil)))) (fun _ _ => rfl)) (da_nil)))))), m, F.kp, F.binds (ps := ["_law_box"]) fun _ _ _ _ _ _ us hl => match us, hl with | [_], _ => rfl⟩
theorem sc_law_bare : FnScope ["_law_page_here", "_law_row_here", "_law_cell_here"] ["_law_page_here"] (defScope s_law_bare) := ⟨rfl, rfl, rfl, by decide +kernel, rfl, by decide +kernel, by decide +kernel⟩
theorem ok_law_bare {f : Addr} {fd : FuncData} (F : Fun W.K "_law_bare" "_law_bare" s_law_bare f fd) (m : mg "_law_bare" = some (.ref f)) (T : Txt W mg)  : Fn P w W mg base "_law_bare" (1) 1 (funD 3 d_law_bare) :=
  ⟨f, fd, ["_law_page_here"], fnE F sc_law_bare rfl rfl fun cdv A outer sh H E hr => db_one (ds_ret (de_lc false rfl sc_law_bare.nd (di_seq (dv 0)) (by exact blkOk_by (N := ["_law_page_here", "_law_row_here", "_law_cell_here"]) (sc := defScope s_law_bare) (own := [("_law_row_here", 1)]) (by decide +kernel)) rfl (by decide) (fun _ _ _ _ _ => tg_one sc_law_bare.nd rfl (by first | exact Or.inl rfl | exact Or.inr rfl)) (fun _ _ _ _ _ => dts_nil) (fun _ _ _ _ _ => de_callTy dc_tup (by rfl) T.b_tuple (by decide +kernel) (da_cons (de_lc false rfl sc_law_bare.nd (di_seq (dv 1)) (by exact blkOk_nest (N := ["_law_page_here", "_law_row_here", "_law_cell_here"]) (sc := defScope s_law_bare) (own := [("_law_cell_here", 2)]) rfl rfl (by decide +kernel)) rfl (by decide) (fun _ _ _ _ _ => tg_one sc_law_bare.nd rfl (by first | exact Or.inl rfl | exact Or.inr rfl)) (fun _ _ _ _ _ => dts_nil) (fun _ _ _ _ _ => de_mt PySem.F.plainAttrs_str PySem.F.slot_str_strip PySem.F.type_str_strip (dm_strip) (dv 2) (da_cons (de_str (by decide +kernel) (by decide +kernel)) (da_nil)) (fun a b c => pe_bm PySem.F.plainAttrs_str PySem.F.slot_str_strip PySem.F.type_str_strip a b c))) (da_nil)) (fun a b => pe_callTy a (by rfl) T.b_tuple (by decide +kernel) b)))), m, F.kp, F.binds (ps := ["_law_page_here"]) fun _ _ _ _ _ _ us hl => match us, hl with | [_], _ => rfl⟩
theorem sc_law_alike : FnScope ["_law_found", "_law_due", "_law_k"] ["_law_found", "_law_due"] (defScope s_law_alike) := ⟨rfl, rfl, rfl, by decide +kernel, rfl, by decide +kernel, by decide +kernel⟩
theorem ok_law_alike {j : Nat} {rec_ : FV} {f : Addr} {fd : FuncData} (F : Fun W.K "_law_alike" "_law_alike" s_law_alike f fd) (m : mg "_law_alike" = some (.ref f)) (T : Txt W mg) (c_law_alike : Fn P w W mg base "_law_alike" j 2 rec_) : Fn P w W mg base "_law_alike" (j + 1) 2 (funD 3 (d_law_alike rec_)) :=
  ⟨f, fd, ["_law_found", "_law_due"], fnE F sc_law_alike rfl rfl fun cdv A outer sh H E hr => db_cons (ds_if (dt_cmp dop_is (dv 1) (de_non) (nomark _)) (db_one (ds_ret (de_cmp dop_is (dv 0) (de_non) (nomark _)))) (db_nil)) (db_cons (ds_if (dt_val (de_isinst (by simp) (dv 1) (pe_bltn (by rfl) T.b_bool (by decide +kernel) rfl) (fun a b => pe_callB a (by rfl) T.b_isinstance (by decide +kernel) b) (fun p => pa_cons p (pa_cons (pe_bltn (by rfl) T.b_bool (by decide +kernel) rfl) pa_nil)))) (db_one (ds_ret (de_and (de_isinst (by simp) (dv 0) (pe_bltn (by rfl) T.b_bool (by decide +kernel) rfl) (fun a b => pe_callB a (by rfl) T.b_isinstance (by decide +kernel) b) (fun p => pa_cons p (pa_cons (pe_bltn (by rfl) T.b_bool (by decide +kernel) rfl) pa_nil))) (de_one (de_cmp (dop_eq rfl hr.units) (dv 0) (dv 1) (nomark _)))))) (db_nil)) (db_cons (ds_if (dt_val (de_isinst (by simp) (dv 1) (pe_bltn (by rfl) T.b_int (by decide +kernel) rfl) (fun a b => pe_callB a (by rfl) T.b_isinstance (by decide +kernel) b) (fun p => pa_cons p (pa_cons (pe_bltn (by rfl) T.b_int (by decide +kernel) rfl) pa_nil)))) (db_one (ds_ret (de_and (de_isinst (by simp) (dv 0) (pe_bltn (by rfl) T.b_int (by decide +kernel) rfl) (fun a b => pe_callB a (by rfl) T.b_isinstance (by decide +kernel) b) (fun p => pa_cons p (pa_cons (pe_bltn (by rfl) T.b_int (by decide +kernel) rfl) pa_nil))) (de_and (de_not (de_isinst (by simp) (dv 0) (pe_bltn (by rfl) T.b_bool (by decide +kernel) rfl) (fun a b => pe_callB a (by rfl) T.b_isinstance (by decide +kernel) b) (fun p => pa_cons p (pa_cons (pe_bltn (by rfl) T.b_bool (by decide +kernel) rfl) pa_nil)))) (de_one (de_cmp (dop_eq rfl hr.units) (dv 0) (dv 1) (nomark _))))))) (db_nil)) (db_cons (ds_if (dt_val (de_isinst (by simp) (dv 1) (pe_bltn (by rfl) T.b_str (by decide +kernel) rfl) (fun a b => pe_callB a (by rfl) T.b_isinstance (by decide +kernel) b) (fun p => pa_cons p (pa_cons (pe_bltn (by rfl) T.b_str (by decide +kernel) rfl) pa_nil)))) (db_one (ds_ret (de_and (de_isinst (by simp) (dv 0) (pe_bltn (by rfl) T.b_str (by decide +kernel) rfl) (fun a b => pe_callB a (by rfl) T.b_isinstance (by decide +kernel) b) (fun p => pa_cons p (pa_cons (pe_bltn (by rfl) T.b_str (by decide +kernel) rfl) pa_nil))) (de_one (de_cmp (dop_eq rfl hr.units) (dv 0) (dv 1) (nomark _)))))) (db_nil)) (db_cons (ds_if (dt_w (dw_or (dt_cmp (dop_ne rfl hr.units) (de_isinst (by simp) (dv 1) (pe_bltn (by rfl) T.b_tuple (by decide +kernel) rfl) (fun a b => pe_callB a (by rfl) T.b_isinstance (by decide +kernel) b) (fun p => pa_cons p (pa_cons (pe_bltn (by rfl) T.b_tuple (by decide +kernel) rfl) pa_nil))) (de_isinst (by simp) (dv 0) (pe_bltn (by rfl) T.b_tuple (by decide +kernel) rfl) (fun a b => pe_callB a (by rfl) T.b_isinstance (by decide +kernel) b) (fun p => pa_cons p (pa_cons (pe_bltn (by rfl) T.b_tuple (by decide +kernel) rfl) pa_nil))) (nomark _)) (dw_or1 (dt_cmp (dop_ne rfl hr.units) (de_isinst (by simp) (dv 1) (pe_bltn (by rfl) T.b_list (by decide +kernel) rfl) (fun a b => pe_callB a (by rfl) T.b_isinstance (by decide +kernel) b) (fun p => pa_cons p (pa_cons (pe_bltn (by rfl) T.b_list (by decide +kernel) rfl) pa_nil))) (de_isinst (by simp) (dv 0) (pe_bltn (by rfl) T.b_list (by decide +kernel) rfl) (fun a b => pe_callB a (by rfl) T.b_isinstance (by decide +kernel) b) (fun p => pa_cons p (pa_cons (pe_bltn (by rfl) T.b_list (by decide +kernel) rfl) pa_nil))) (nomark _))))) (db_one (ds_ret (de_bl))) (db_nil)) (db_cons (ds_if (dt_cmp (dop_ne rfl hr.units) (de_callB dc_len (by rfl) T.b_len (by decide +kernel) (da_cons (dv 0) (da_nil)) (fun a b => pe_callB a (by rfl) T.b_len (by decide +kernel) b)) (de_callB dc_len (by rfl) T.b_len (by decide +kernel) (da_cons (dv 1) (da_nil)) (fun a b => pe_callB a (by rfl) T.b_len (by decide +kernel) b)) (nomark _)) (db_one (ds_ret (de_bl))) (db_nil)) (db_cons (ds_for passF rfl (di_r1 (by rfl) T.b_range (da_cons (de_callB dc_len (by rfl) T.b_len (by decide +kernel) (da_cons (dv 1) (da_nil)) (fun a b => pe_callB a (by rfl) T.b_len (by decide +kernel) b)) (da_nil))) (dg_name sc_law_alike.nd rfl (by first | exact Or.inl rfl | exact Or.inr rfl)) (db_one (ds_if (dt_not (dt_val (dcallR c_law_alike hr passD (da_cons (de_ix rfl (dv 0) (dv 2) (fun _ _ => rfl)) (da_cons (de_ix rfl (dv 1) (dv 2) (fun _ _ => rfl)) (da_nil)))))) (db_one (ds_ret (de_bl))) (db_nil)))) (db_one (ds_ret (de_bl))))))))), m, F.kp, F.binds (ps := ["_law_found", "_law_due"]) fun _ _ _ _ _ _ us hl => match us, hl with | [_, _], _ => rfl⟩
theorem rec_law_alike {f : Addr} {fd : FuncData} (F : Fun W.K "_law_alike" "_law_alike" s_law_alike f fd) (m : mg "_law_alike" = some (.ref f)) (T : Txt W mg) : ∀ n, Fn P w W mg base "_law_alike" n 2 (l_law_alike n)
  | 0 => fn_bad m F.kp (F.binds (ps := ["_law_found", "_law_due"]) fun _ _ _ _ _ _ us hl => match us, hl with | [_, _], _ => rfl)
  | n + 1 => ok_law_alike F m T (rec_law_alike F m T n)
theorem sc_is_sign : FnScope ["sign"] ["sign"] (defScope s_is_sign) := ⟨rfl, rfl, rfl, by decide +kernel, rfl, by decide +kernel, by decide +kernel⟩
theorem ok_is_sign {f : Addr} {fd : FuncData} (F : Fun W.K "is_sign" "is_sign" s_is_sign f fd) (m : mg "is_sign" = some (.ref f)) (T : Txt W mg)  : Fn P w W mg base "is_sign" (1) 1 (funD 1 d_is_sign) :=
  ⟨f, fd, ["sign"], fnE F sc_is_sign rfl rfl fun cdv A outer sh H E hr => db_one (ds_ret (de_and (de_chain dop_le dop_le (de_globS rfl T.k_FIRST_SIGN.choose_spec (by decide +kernel) (by decide +kernel)) (dv 0) (de_globS rfl T.k_LAST_SIGN.choose_spec (by decide +kernel) (by decide +kernel)) (by with_unfolding_all rfl)) (de_one (de_cmp (dop_ne rfl hr.units) (de_callB dc_ord (by rfl) T.b_ord (by decide +kernel) (da_cons (dv 0) (da_nil)) (fun a b => pe_callB a (by rfl) T.b_ord (by decide +kernel) b)) (de_globI rfl T.k_BARRED.choose_spec) (nomark _))))), m, F.kp, F.binds (ps := ["sign"]) fun _ _ _ _ _ _ us hl => match us, hl with | [_], _ => rfl⟩
theorem sc_is_line : FnScope ["line", "sign"] ["line"] (defScope s_is_line) := ⟨rfl, rfl, rfl, by decide +kernel, rfl, by decide +kernel, by decide +kernel⟩
theorem ok_is_line {m_is_sign : FV} {f : Addr} {fd : FuncData} (F : Fun W.K "is_line" "is_line" s_is_line f fd) (m : mg "is_line" = some (.ref f)) (T : Txt W mg) (c_is_sign : Fn P w W mg base "is_sign" 1 1 m_is_sign) : Fn P w W mg base "is_line" (2) 1 (funD 2 (d_is_line m_is_sign)) :=
  ⟨f, fd, ["line"], fnE F sc_is_line rfl rfl fun cdv A outer sh H E hr => db_one (ds_ret (de_and (de_isinst (by simp) (dv 0) (pe_bltn (by rfl) T.b_str (by decide +kernel) rfl) (fun a b => pe_callB a (by rfl) T.b_isinstance (by decide +kernel) b) (fun p => pa_cons p (pa_cons (pe_bltn (by rfl) T.b_str (by decide +kernel) rfl) pa_nil))) (de_and (de_cmp dop_le (de_callB dc_len (by rfl) T.b_len (by decide +kernel) (da_cons (dv 0) (da_nil)) (fun a b => pe_callB a (by rfl) T.b_len (by decide +kernel) b)) (de_globI rfl T.k_MOST_WIDE.choose_spec) (nomark _)) (de_one (de_cmp (dop_eq rfl hr.units) (de_lc false rfl sc_is_line.nd (di_seq (dv 0)) (by exact blkOk_by (N := ["line", "sign"]) (sc := defScope s_is_line) (own := [("sign", 1)]) (by decide +kernel)) rfl (by decide) (fun _ _ _ _ _ => tg_one sc_is_line.nd rfl (by first | exact Or.inl rfl | exact Or.inr rfl)) (fun _ _ _ _ _ => dts_one (dt_not (dt_val (dcall c_is_sign hr passL (da_cons (dv 1) (da_nil)))))) (fun _ _ _ _ _ => dv 1)) (de_lst false (da_nil)) (nomark _)))))), m, F.kp, F.binds (ps := ["line"]) fun _ _ _ _ _ _ us hl => match us, hl with | [_], _ => rfl⟩
theorem sc_need_lines : FnScope ["lines", "number", "line"] ["lines"] (defScope s_need_lines) := ⟨rfl, rfl, rfl, by decide +kernel, rfl, by decide +kernel, by decide +kernel⟩
theorem ok_need_lines {m_is_line : FV} {f : Addr} {fd : FuncData} (F : Fun W.K "need_lines" "need_lines" s_need_lines f fd) (m : mg "need_lines" = some (.ref f)) (T : Txt W mg) (c_is_line : Fn P w W mg base "is_line" 2 1 m_is_line) : Fn P w W mg base "need_lines" (3) 1 (funD 3 (d_need_lines_k07 m_is_line)) :=
  ⟨f, fd, ["lines"], fnE F sc_need_lines rfl rfl fun cdv A outer sh H E hr => db_one (ds_for passF rfl (di_enum (by rfl) T.b_enumerate (da_cons (dv 0) (da_nil))) (dg_tup rfl (dgs_cons (dg_name sc_need_lines.nd rfl (by first | exact Or.inl rfl | exact Or.inr rfl)) (dgs_cons (dg_name sc_need_lines.nd rfl (by first | exact Or.inl rfl | exact Or.inr rfl)) (dgs_nil)))) (db_one (ds_if (dt_w (dw_or (dt_cmp dop_ge (dv 1) (de_globI rfl T.k_MOST_ROWS.choose_spec) (nomark _)) (dw_or1 (dt_not (dt_val (dcall c_is_line hr passD (da_cons (dv 2) (da_nil)))))))) (db_one (ds_bad)) (db_nil)))), m, F.kp, F.binds (ps := ["lines"]) fun _ _ _ _ _ _ us hl => match us, hl with | [_], _ => rfl⟩
theorem sc_is_number : FnScope ["part", "low", "high"] ["part", "low", "high"] (defScope s_is_number) := ⟨rfl, rfl, rfl, by decide +kernel, rfl, by decide +kernel, by decide +kernel⟩
theorem ok_is_number {f : Addr} {fd : FuncData} (F : Fun W.K "is_number" "is_number" s_is_number f fd) (m : mg "is_number" = some (.ref f)) (T : Txt W mg)  : Fn P w W mg base "is_number" (1) 3 (funD 3 d_is_number) :=
  ⟨f, fd, ["part", "low", "high"], fnE F sc_is_number rfl rfl fun cdv A outer sh H E hr => db_one (ds_ret (de_and (de_isinst (by simp) (dv 0) (pe_bltn (by rfl) T.b_int (by decide +kernel) rfl) (fun a b => pe_callB a (by rfl) T.b_isinstance (by decide +kernel) b) (fun p => pa_cons p (pa_cons (pe_bltn (by rfl) T.b_int (by decide +kernel) rfl) pa_nil))) (de_and (de_not (de_isinst (by simp) (dv 0) (pe_bltn (by rfl) T.b_bool (by decide +kernel) rfl) (fun a b => pe_callB a (by rfl) T.b_isinstance (by decide +kernel) b) (fun p => pa_cons p (pa_cons (pe_bltn (by rfl) T.b_bool (by decide +kernel) rfl) pa_nil)))) (de_one (de_chain dop_le dop_le (dv 1) (dv 0) (dv 2) (by with_unfolding_all rfl)))))), m, F.kp, F.binds (ps := ["part", "low", "high"]) fun _ _ _ _ _ _ us hl => match us, hl with | [_, _, _], _ => rfl⟩
theorem sc_is_stops : FnScope ["lefts", "left", "k"] ["lefts"] (defScope s_is_stops) := ⟨rfl, rfl, rfl, by decide +kernel, rfl, by decide +kernel, by decide +kernel⟩
theorem ok_is_stops {m_is_number : FV} {f : Addr} {fd : FuncData} (F : Fun W.K "is_stops" "is_stops" s_is_stops f fd) (m : mg "is_stops" = some (.ref f)) (T : Txt W mg) (c_is_number : Fn P w W mg base "is_number" 1 3 m_is_number) : Fn P w W mg base "is_stops" (2) 1 (funD 3 (d_is_stops m_is_number)) :=
  ⟨f, fd, ["lefts"], fnE F sc_is_stops rfl rfl fun cdv A outer sh H E hr => db_cons (ds_if (dt_w (dw_or (dt_not (dt_val (de_isinst (by simp) (dv 0) (pe_bltn (by rfl) T.b_list (by decide +kernel) rfl) (fun a b => pe_callB a (by rfl) T.b_isinstance (by decide +kernel) b) (fun p => pa_cons p (pa_cons (pe_bltn (by rfl) T.b_list (by decide +kernel) rfl) pa_nil))))) (dw_or1 (dt_cmp (dop_ne rfl hr.units) (de_sl false rfl (dv 0) (dp_none) (dp_some (de_int))) (de_lst false (da_cons (de_int) (da_nil))) (nomark _))))) (db_one (ds_ret (de_bl))) (db_nil)) (db_cons (ds_if (dt_cmp (dop_ne rfl hr.units) (de_lc false rfl sc_is_stops.nd (di_seq (dv 0)) (by exact blkOk_by (N := ["lefts", "left", "k"]) (sc := defScope s_is_stops) (own := [("left", 1)]) (by decide +kernel)) rfl (by decide) (fun _ _ _ _ _ => tg_one sc_is_stops.nd rfl (by first | exact Or.inl rfl | exact Or.inr rfl)) (fun _ _ _ _ _ => dts_one (dt_not (dt_val (dcall c_is_number hr passL (da_cons (dv 1) (da_cons (de_int) (da_cons (de_globI rfl T.k_MOST_WIDE.choose_spec) (da_nil)))))))) (fun _ _ _ _ _ => dv 1)) (de_lst false (da_nil)) (nomark _)) (db_one (ds_ret (de_bl))) (db_nil)) (db_one (ds_ret (de_cmp (dop_eq rfl hr.units) (de_lc false rfl sc_is_stops.nd (di_r1 (by rfl) T.b_range (da_cons (de_op dop_sub (de_callB dc_len (by rfl) T.b_len (by decide +kernel) (da_cons (dv 0) (da_nil)) (fun a b => pe_callB a (by rfl) T.b_len (by decide +kernel) b)) (de_int)) (da_nil))) (by exact blkOk_by (N := ["lefts", "left", "k"]) (sc := defScope s_is_stops) (own := [("k", 2)]) (by decide +kernel)) rfl (by decide) (fun _ _ _ _ _ => tg_one sc_is_stops.nd rfl (by first | exact Or.inl rfl | exact Or.inr rfl)) (fun _ _ _ _ _ => dts_one (dt_cmp dop_gt (de_ix rfl (dv 0) (dv 2) (fun _ _ => rfl)) (de_ix rfl (dv 0) (de_op (dop_add false) (dv 2) (de_int)) (fun _ _ => rfl)) (nomark _))) (fun _ _ _ _ _ => dv 2)) (de_lst false (da_nil)) (nomark _))))), m, F.kp, F.binds (ps := ["lefts"]) fun _ _ _ _ _ _ us hl => match us, hl with | [_], _ => rfl⟩
theorem sc_read_back : FnScope ["lines", "told", "number", "found", "line", "lefts", "edges", "k"] ["lines", "told"] (defScope s_read_back) := ⟨rfl, rfl, rfl, by decide +kernel, rfl, by decide +kernel, by decide +kernel⟩
theorem ok_read_back {m_need_lines_k07 m_is_stops : FV} {f : Addr} {fd : FuncData} (F : Fun W.K "read_back" "read_back" s_read_back f fd) (m : mg "read_back" = some (.ref f)) (T : Txt W mg) (c_need_lines : Fn P w W mg base "need_lines" 3 1 m_need_lines_k07) (c_is_stops : Fn P w W mg base "is_stops" 2 1 m_is_stops) : Fn P w W mg base "read_back" (4) 2 (funD 8 (d_read_back_k07 m_need_lines_k07 m_is_stops)) :=
  ⟨f, fd, ["lines", "told"], fnE F sc_read_back rfl rfl fun cdv A outer sh H E hr => db_cons (ds_expr (dcall c_need_lines hr passD (da_cons (dv 0) (da_nil)))) (db_cons (ds_for passF rfl (di_r1 (by rfl) T.b_range (da_cons (de_callB dc_len (by rfl) T.b_len (by decide +kernel) (da_cons (dv 0) (da_nil)) (fun a b => pe_callB a (by rfl) T.b_len (by decide +kernel) b)) (da_nil))) (dg_name sc_read_back.nd rfl (by first | exact Or.inl rfl | exact Or.inr rfl)) (db_one (ds_if (dt_w (dw_or (dt_cmp dop_ge (dv 2) (de_callB dc_len (by rfl) T.b_len (by decide +kernel) (da_cons (dv 1) (da_nil)) (fun a b => pe_callB a (by rfl) T.b_len (by decide +kernel) b)) (nomark _)) (dw_or1 (dt_not (dt_val (dcall c_is_stops hr passD (da_cons (de_ix rfl (dv 1) (dv 2) (fun _ _ => rfl)) (da_nil)))))))) (db_one (ds_bad)) (db_nil)))) (db_cons (ds_if (dt_cmp (dop_ne rfl hr.units) (de_callB dc_len (by rfl) T.b_len (by decide +kernel) (da_cons (dv 1) (da_nil)) (fun a b => pe_callB a (by rfl) T.b_len (by decide +kernel) b)) (de_callB dc_len (by rfl) T.b_len (by decide +kernel) (da_cons (dv 0) (da_nil)) (fun a b => pe_callB a (by rfl) T.b_len (by decide +kernel) b)) (nomark _)) (db_one (ds_bad)) (db_nil)) (db_cons (ds_set sc_read_back.nd rfl (by first | exact Or.inl rfl | exact Or.inr rfl) (de_lst true (da_nil))) (db_cons (ds_for passF rfl (di_zip (by rfl) T.b_zip (da_cons (dv 0) (da_cons (dv 1) (da_nil)))) (dg_tup rfl (dgs_cons (dg_name sc_read_back.nd rfl (by first | exact Or.inl rfl | exact Or.inr rfl)) (dgs_cons (dg_name sc_read_back.nd rfl (by first | exact Or.inl rfl | exact Or.inr rfl)) (dgs_nil)))) (db_cons (ds_set sc_read_back.nd rfl (by first | exact Or.inl rfl | exact Or.inr rfl) (de_op (dop_add false) (dv 5) (de_lst false (da_cons (de_callB (dc_max rfl) (by rfl) T.b_max (by decide +kernel) (da_cons (de_callB dc_len (by rfl) T.b_len (by decide +kernel) (da_cons (dv 4) (da_nil)) (fun a b => pe_callB a (by rfl) T.b_len (by decide +kernel) b)) (da_cons (de_ix rfl (dv 5) (de_neg (de_int)) (fun _ _ => rfl)) (da_nil))) (fun a b => pe_callB a (by rfl) T.b_max (by decide +kernel) b)) (da_nil))))) (db_one (ds_expr (de_mt PySem.F.plainAttrs_list PySem.F.slot_list_append PySem.F.type_list_append (dm_append) (dv 3) (da_cons (de_callTy dc_tup (by rfl) T.b_tuple (by decide +kernel) (da_cons (de_lc false rfl sc_read_back.nd (di_r1 (by rfl) T.b_range (da_cons (de_callB dc_len (by rfl) T.b_len (by decide +kernel) (da_cons (dv 5) (da_nil)) (fun a b => pe_callB a (by rfl) T.b_len (by decide +kernel) b)) (da_nil))) (by exact blkOk_by (N := ["lines", "told", "number", "found", "line", "lefts", "edges", "k"]) (sc := defScope s_read_back) (own := [("k", 7)]) (by decide +kernel)) rfl (by decide) (fun _ _ _ _ _ => tg_one sc_read_back.nd rfl (by first | exact Or.inl rfl | exact Or.inr rfl)) (fun _ _ _ _ _ => dts_nil) (fun _ _ _ _ _ => de_mt PySem.F.plainAttrs_str PySem.F.slot_str_strip PySem.F.type_str_strip (dm_strip) (de_sl false rfl (dv 4) (dp_some (de_ix rfl (dv 6) (dv 7) (fun _ _ => rfl))) (dp_some (de_ix rfl (dv 6) (de_op (dop_add false) (dv 7) (de_int)) (fun _ _ => rfl)))) (da_cons (de_str (by decide +kernel) (by decide +kernel)) (da_nil)) (fun a b c => pe_bm PySem.F.plainAttrs_str PySem.F.slot_str_strip PySem.F.type_str_strip a b c))) (da_nil)) (fun a b => pe_callTy a (by rfl) T.b_tuple (by decide +kernel) b)) (da_nil)) (fun a b c => pe_bm PySem.F.plainAttrs_list PySem.F.slot_list_append PySem.F.type_list_append a b c)))))) (db_one (ds_ret (dv 3))))))), m, F.kp, F.binds (ps := ["lines", "told"]) fun _ _ _ _ _ _ us hl => match us, hl with | [_, _], _ => rfl⟩
theorem sc_is_cell : FnScope ["cell", "sign"] ["cell"] (defScope s_is_cell) := ⟨rfl, rfl, rfl, by decide +kernel, rfl, by decide +kernel, by decide +kernel⟩
theorem ok_is_cell {m_is_sign : FV} {f : Addr} {fd : FuncData} (F : Fun W.K "is_cell" "is_cell" s_is_cell f fd) (m : mg "is_cell" = some (.ref f)) (T : Txt W mg) (c_is_sign : Fn P w W mg base "is_sign" 1 1 m_is_sign) : Fn P w W mg base "is_cell" (2) 1 (funD 2 (d_is_cell m_is_sign)) :=
  ⟨f, fd, ["cell"], fnE F sc_is_cell rfl rfl fun cdv A outer sh H E hr => db_cons (ds_if (dt_w (dw_or (dt_not (dt_val (de_isinst (by simp) (dv 0) (pe_bltn (by rfl) T.b_str (by decide +kernel) rfl) (fun a b => pe_callB a (by rfl) T.b_isinstance (by decide +kernel) b) (fun p => pa_cons p (pa_cons (pe_bltn (by rfl) T.b_str (by decide +kernel) rfl) pa_nil))))) (dw_or1 (dt_cmp dop_gt (de_callB dc_len (by rfl) T.b_len (by decide +kernel) (da_cons (dv 0) (da_nil)) (fun a b => pe_callB a (by rfl) T.b_len (by decide +kernel) b)) (de_globI rfl T.k_MOST_SIGNS.choose_spec) (nomark _))))) (db_one (ds_ret (de_bl))) (db_nil)) (db_one (ds_ret (de_cmp (dop_eq rfl hr.units) (de_lc false rfl sc_is_cell.nd (di_seq (dv 0)) (by exact blkOk_by (N := ["cell", "sign"]) (sc := defScope s_is_cell) (own := [("sign", 1)]) (by decide +kernel)) rfl (by decide) (fun _ _ _ _ _ => tg_one sc_is_cell.nd rfl (by first | exact Or.inl rfl | exact Or.inr rfl)) (fun _ _ _ _ _ => dts_one (dt_not (dt_val (dcall c_is_sign hr passL (da_cons (dv 1) (da_nil)))))) (fun _ _ _ _ _ => dv 1)) (de_lst false (da_nil)) (nomark _)))), m, F.kp, F.binds (ps := ["cell"]) fun _ _ _ _ _ _ us hl => match us, hl with | [_], _ => rfl⟩
theorem sc_is_row : FnScope ["row", "cell"] ["row"] (defScope s_is_row) := ⟨rfl, rfl, rfl, by decide +kernel, rfl, by decide +kernel, by decide +kernel⟩
theorem ok_is_row {m_is_cell : FV} {f : Addr} {fd : FuncData} (F : Fun W.K "is_row" "is_row" s_is_row f fd) (m : mg "is_row" = some (.ref f)) (T : Txt W mg) (c_is_cell : Fn P w W mg base "is_cell" 2 1 m_is_cell) : Fn P w W mg base "is_row" (3) 1 (funD 2 (d_is_row m_is_cell)) :=
  ⟨f, fd, ["row"], fnE F sc_is_row rfl rfl fun cdv A outer sh H E hr => db_cons (ds_if (dt_w (dw_or (dt_not (dt_val (de_isinst (by simp) (dv 0) (pe_bltn (by rfl) T.b_tuple (by decide +kernel) rfl) (fun a b => pe_callB a (by rfl) T.b_isinstance (by decide +kernel) b) (fun p => pa_cons p (pa_cons (pe_bltn (by rfl) T.b_tuple (by decide +kernel) rfl) pa_nil))))) (dw_or1 (dt_not (dt_chain dop_le dop_le (de_int) (de_callB dc_len (by rfl) T.b_len (by decide +kernel) (da_cons (dv 0) (da_nil)) (fun a b => pe_callB a (by rfl) T.b_len (by decide +kernel) b)) (de_globI rfl T.k_MOST_CELLS.choose_spec) (by with_unfolding_all rfl)))))) (db_one (ds_ret (de_bl))) (db_nil)) (db_one (ds_ret (de_cmp (dop_eq rfl hr.units) (de_lc false rfl sc_is_row.nd (di_seq (dv 0)) (by exact blkOk_by (N := ["row", "cell"]) (sc := defScope s_is_row) (own := [("cell", 1)]) (by decide +kernel)) rfl (by decide) (fun _ _ _ _ _ => tg_one sc_is_row.nd rfl (by first | exact Or.inl rfl | exact Or.inr rfl)) (fun _ _ _ _ _ => dts_one (dt_not (dt_val (dcall c_is_cell hr passL (da_cons (dv 1) (da_nil)))))) (fun _ _ _ _ _ => dv 1)) (de_lst false (da_nil)) (nomark _)))), m, F.kp, F.binds (ps := ["row"]) fun _ _ _ _ _ _ us hl => match us, hl with | [_], _ => rfl⟩
theorem sc_need_page : FnScope ["page", "number", "row"] ["page"] (defScope s_need_page) := ⟨rfl, rfl, rfl, by decide +kernel, rfl, by decide +kernel, by decide +kernel⟩
theorem ok_need_page {m_is_row : FV} {f : Addr} {fd : FuncData} (F : Fun W.K "need_page" "need_page" s_need_page f fd) (m : mg "need_page" = some (.ref f)) (T : Txt W mg) (c_is_row : Fn P w W mg base "is_row" 3 1 m_is_row) : Fn P w W mg base "need_page" (4) 1 (funD 3 (d_need_page m_is_row)) :=
  ⟨f, fd, ["page"], fnE F sc_need_page rfl rfl fun cdv A outer sh H E hr => db_cons (ds_if (dt_w (dw_or (dt_not (dt_val (de_isinst (by simp) (dv 0) (pe_bltn (by rfl) T.b_list (by decide +kernel) rfl) (fun a b => pe_callB a (by rfl) T.b_isinstance (by decide +kernel) b) (fun p => pa_cons p (pa_cons (pe_bltn (by rfl) T.b_list (by decide +kernel) rfl) pa_nil))))) (dw_or1 (dt_cmp (dop_eq rfl hr.units) (dv 0) (de_lst false (da_nil)) (nomark _))))) (db_one (ds_bad)) (db_nil)) (db_one (ds_for passF rfl (di_enum (by rfl) T.b_enumerate (da_cons (dv 0) (da_nil))) (dg_tup rfl (dgs_cons (dg_name sc_need_page.nd rfl (by first | exact Or.inl rfl | exact Or.inr rfl)) (dgs_cons (dg_name sc_need_page.nd rfl (by first | exact Or.inl rfl | exact Or.inr rfl)) (dgs_nil)))) (db_one (ds_if (dt_w (dw_or (dt_cmp dop_ge (dv 1) (de_globI rfl T.k_MOST_ROWS.choose_spec) (nomark _)) (dw_or1 (dt_not (dt_val (dcall c_is_row hr passD (da_cons (dv 2) (da_nil)))))))) (db_one (ds_bad)) (db_nil))))), m, F.kp, F.binds (ps := ["page"]) fun _ _ _ _ _ _ us hl => match us, hl with | [_], _ => rfl⟩
theorem sc_need_style : FnScope ["style"] ["style"] (defScope s_need_style) := ⟨rfl, rfl, rfl, by decide +kernel, rfl, by decide +kernel, by decide +kernel⟩
theorem ok_need_style {m_is_number : FV} {f : Addr} {fd : FuncData} (F : Fun W.K "need_style" "need_style" s_need_style f fd) (m : mg "need_style" = some (.ref f)) (T : Txt W mg) (c_is_number : Fn P w W mg base "is_number" 1 3 m_is_number) : Fn P w W mg base "need_style" (2) 1 (funD 1 (d_need_style m_is_number)) :=
  ⟨f, fd, ["style"], fnE F sc_need_style rfl rfl fun cdv A outer sh H E hr => db_cons (ds_if (dt_w (dw_or (dt_not (dt_val (de_isinst (by simp) (dv 0) (pe_bltn (by rfl) T.b_tuple (by decide +kernel) rfl) (fun a b => pe_callB a (by rfl) T.b_isinstance (by decide +kernel) b) (fun p => pa_cons p (pa_cons (pe_bltn (by rfl) T.b_tuple (by decide +kernel) rfl) pa_nil))))) (dw_or1 (dt_cmp (dop_ne rfl hr.units) (de_callB dc_len (by rfl) T.b_len (by decide +kernel) (da_cons (dv 0) (da_nil)) (fun a b => pe_callB a (by rfl) T.b_len (by decide +kernel) b)) (de_int) (nomark _))))) (db_one (ds_bad)) (db_nil)) (db_one (ds_if (dt_w (dw_or (dt_not (dt_val (dcall c_is_number hr passD (da_cons (de_ix rfl (dv 0) (de_int) (fun _ _ => rfl)) (da_cons (de_int) (da_cons (de_globI rfl T.k_MOST_GAP.choose_spec) (da_nil))))))) (dw_or1 (dt_not (dt_val (dcall c_is_number hr passD (da_cons (de_ix rfl (dv 0) (de_int) (fun _ _ => rfl)) (da_cons (de_int) (da_cons (de_globI rfl T.k_MOST_LEAST.choose_spec) (da_nil)))))))))) (db_one (ds_bad)) (db_nil))), m, F.kp, F.binds (ps := ["style"]) fun _ _ _ _ _ _ us hl => match us, hl with | [_], _ => rfl⟩
theorem sc_Stretch_width : FnScope ["self", "style", "cell"] ["self", "style"] (defScope s_Stretch_width) := ⟨rfl, rfl, rfl, by decide +kernel, rfl, by decide +kernel, by decide +kernel⟩
theorem ok_Stretch_width {f : Addr} {fd : FuncData} (F : Fun W.K "width" "Stretch.width" s_Stretch_width f fd) (M : Meth W.K (W.cls 12) "width" f) (T : Txt W mg)  : Mt P w W mg base 12 "width" (1) 2 (funD 3 d_Stretch_width) :=
  ⟨⟨f, fd, ["self", "style"], fnE F sc_Stretch_width rfl rfl fun cdv A outer sh H E hr => db_one (ds_ret (de_callB (dc_max rfl) (by rfl) T.b_max (by decide +kernel) (da_cons (de_ix rfl (dv 1) (de_int) (fun _ _ => rfl)) (da_cons (de_op (dop_add false) (de_callB (dc_max rfl) (by rfl) T.b_max (by decide +kernel) (da_cons (de_lc false rfl sc_Stretch_width.nd (di_seq (de_fld rfl (dv 0) T.cl_Stretch T.na_Stretch_cells)) (by exact blkOk_by (N := ["self", "style", "cell"]) (sc := defScope s_Stretch_width) (own := [("cell", 2)]) (by decide +kernel)) rfl (by decide) (fun _ _ _ _ _ => tg_one sc_Stretch_width.nd rfl (by first | exact Or.inl rfl | exact Or.inr rfl)) (fun _ _ _ _ _ => dts_nil) (fun _ _ _ _ _ => de_callB dc_len (by rfl) T.b_len (by decide +kernel) (da_cons (dv 2) (da_nil)) (fun a b => pe_callB a (by rfl) T.b_len (by decide +kernel) b))) (da_nil)) (fun a b => pe_callB a (by rfl) T.b_max (by decide +kernel) b)) (de_ix rfl (dv 1) (de_int) (fun _ _ => rfl))) (da_nil))) (fun a b => pe_callB a (by rfl) T.b_max (by decide +kernel) b))), M, F.binds (ps := ["self", "style"]) fun _ _ _ _ _ _ us hl => match us, hl with | [_, _], _ => rfl⟩, T.cl_Stretch⟩
theorem sc_stops_by : FnScope ["rows", "style", "some", "widths", "one", "number", "found", "row", "lefts", "column"] ["rows", "style", "some"] (defScope s_stops_by) := ⟨rfl, rfl, rfl, by decide +kernel, rfl, by decide +kernel, by decide +kernel⟩
theorem ok_stops_by {m_Stretch_width : FV} {f : Addr} {fd : FuncData} (F : Fun W.K "stops_by" "stops_by" s_stops_by f fd) (m : mg "stops_by" = some (.ref f)) (T : Txt W mg) (c_Stretch_width : Mt P w W mg base 12 "width" 1 2 m_Stretch_width) : Fn P w W mg base "stops_by" (2) 3 (funD 10 (d_stops_by m_Stretch_width)) :=
  ⟨f, fd, ["rows", "style", "some"], fnE F sc_stops_by rfl rfl fun cdv A outer sh H E hr => db_cons (ds_set sc_stops_by.nd rfl (by first | exact Or.inl rfl | exact Or.inr rfl) (de_dictT)) (db_cons (ds_for passF rfl (di_seq (dv 2)) (dg_name sc_stops_by.nd rfl (by first | exact Or.inl rfl | exact Or.inr rfl)) (db_one (ds_for passF rfl (di_r2 (by rfl) T.b_range (da_cons (de_fld rfl (dv 4) T.cl_Stretch T.na_Stretch_begin) (da_cons (de_fld rfl (dv 4) T.cl_Stretch T.na_Stretch_end) (da_nil)))) (dg_name sc_stops_by.nd rfl (by first | exact Or.inl rfl | exact Or.inr rfl)) (db_one (ds_asg (dmeth c_Stretch_width (dv 4) hr passD (da_cons (dv 1) (da_nil))) (dg_sub (dv 3) (de_tup (da_cons (dv 5) (da_cons (de_fld rfl (dv 4) T.cl_Stretch T.na_Stretch_column) (da_nil)))) (dset_dict (Dl.hu_of hr)))))))) (db_cons (ds_set sc_stops_by.nd rfl (by first | exact Or.inl rfl | exact Or.inr rfl) (de_lst true (da_nil))) (db_cons (ds_for passF rfl (di_enum (by rfl) T.b_enumerate (da_cons (dv 0) (da_nil))) (dg_tup rfl (dgs_cons (dg_name sc_stops_by.nd rfl (by first | exact Or.inl rfl | exact Or.inr rfl)) (dgs_cons (dg_name sc_stops_by.nd rfl (by first | exact Or.inl rfl | exact Or.inr rfl)) (dgs_nil)))) (db_cons (ds_set sc_stops_by.nd rfl (by first | exact Or.inl rfl | exact Or.inr rfl) (de_lst true (da_cons (de_int) (da_nil)))) (db_cons (ds_for passF rfl (di_r1 (by rfl) T.b_range (da_cons (de_op dop_sub (de_callB dc_len (by rfl) T.b_len (by decide +kernel) (da_cons (dv 7) (da_nil)) (fun a b => pe_callB a (by rfl) T.b_len (by decide +kernel) b)) (de_int)) (da_nil))) (dg_name sc_stops_by.nd rfl (by first | exact Or.inl rfl | exact Or.inr rfl)) (db_one (ds_expr (de_mt PySem.F.plainAttrs_list PySem.F.slot_list_append PySem.F.type_list_append (dm_append) (dv 8) (da_cons (de_op (dop_add false) (de_ix rfl (dv 8) (de_neg (de_int)) (fun _ _ => rfl)) (de_dget (Dl.hu_of hr) (dv 3) (de_tup (da_cons (dv 5) (da_cons (dv 9) (da_nil)))) (fun _ _ => rfl))) (da_nil)) (fun a b c => pe_bm PySem.F.plainAttrs_list PySem.F.slot_list_append PySem.F.type_list_append a b c))))) (db_one (ds_expr (de_mt PySem.F.plainAttrs_list PySem.F.slot_list_append PySem.F.type_list_append (dm_append) (dv 6) (da_cons (dv 8) (da_nil)) (fun a b c => pe_bm PySem.F.plainAttrs_list PySem.F.slot_list_append PySem.F.type_list_append a b c))))))) (db_one (ds_ret (dv 6)))))), m, F.kp, F.binds (ps := ["rows", "style", "some"]) fun _ _ _ _ _ _ us hl => match us, hl with | [_, _, _], _ => rfl⟩
theorem sc_Stretch_init : FnScope ["self", "column", "begin", "cells"] ["self", "column", "begin", "cells"] (defScope s_Stretch_init) := ⟨rfl, rfl, rfl, by decide +kernel, rfl, by decide +kernel, by decide +kernel⟩
theorem ok_Stretch_init {f : Addr} {fd : FuncData} (F : Fun W.K "__init__" "Stretch.__init__" s_Stretch_init f fd) (M : Mk W.K (W.cls 12) f) (m : mg "Stretch" = some (.ref (W.cls 12))) (T : Txt W mg)  : Nw P w W mg base "Stretch" 12 (1) 4 (funD 4 d_Stretch_init) :=
  ⟨f, fd, ["self", "column", "begin", "cells"], fnE F sc_Stretch_init rfl rfl fun cdv A outer sh H E hr => db_cons (ds_fld rfl (dv 0) (dv 1) T.cl_Stretch T.na_Stretch_column) (db_cons (ds_fld rfl (dv 0) (dv 2) T.cl_Stretch T.na_Stretch_begin) (db_cons (ds_fld rfl (dv 0) (de_op (dop_add false) (dv 2) (de_callB dc_len (by rfl) T.b_len (by decide +kernel) (da_cons (dv 3) (da_nil)) (fun a b => pe_callB a (by rfl) T.b_len (by decide +kernel) b))) T.cl_Stretch T.na_Stretch_end) (db_one (ds_fld rfl (dv 0) (dv 3) T.cl_Stretch T.na_Stretch_cells)))), M, m, F.binds (ps := ["self", "column", "begin", "cells"]) fun _ _ _ _ _ _ us hl => match us, hl with | [_, _, _, _], _ => rfl⟩
theorem sc_stretches_of : FnScope ["rows", "column", "begin", "end", "found", "first", "number", "is_closed", "k"] ["rows", "column", "begin", "end"] (defScope s_stretches_of) := ⟨rfl, rfl, rfl, by decide +kernel, rfl, by decide +kernel, by decide +kernel⟩
theorem ok_stretches_of {m_Stretch_init : FV} {f : Addr} {fd : FuncData} (F : Fun W.K "stretches_of" "stretches_of" s_stretches_of f fd) (m : mg "stretches_of" = some (.ref f)) (T : Txt W mg) (n_Stretch : Nw P w W mg base "Stretch" 12 1 4 m_Stretch_init) : Fn P w W mg base "stretches_of" (3) 4 (funD 9 (d_stretches_of m_Stretch_init)) :=
  ⟨f, fd, ["rows", "column", "begin", "end"], fnE F sc_stretches_of rfl rfl fun cdv A outer sh H E hr => db_cons (ds_set sc_stretches_of.nd rfl (by first | exact Or.inl rfl | exact Or.inr rfl) (de_lst true (da_nil))) (db_cons (ds_set sc_stretches_of.nd rfl (by first | exact Or.inl rfl | exact Or.inr rfl) (de_non)) (db_cons (ds_for passF rfl (di_r2 (by rfl) T.b_range (da_cons (dv 2) (da_cons (de_op (dop_add false) (dv 3) (de_int)) (da_nil)))) (dg_name sc_stretches_of.nd rfl (by first | exact Or.inl rfl | exact Or.inr rfl)) (db_cons (ds_set sc_stretches_of.nd rfl (by first | exact Or.inl rfl | exact Or.inr rfl) (de_and (de_cmp dop_lt (dv 6) (dv 3) (nomark _)) (de_one (de_cmp dop_gt (de_callB dc_len (by rfl) T.b_len (by decide +kernel) (da_cons (de_ix rfl (dv 0) (dv 6) (fun _ _ => rfl)) (da_nil)) (fun a b => pe_callB a (by rfl) T.b_len (by decide +kernel) b)) (de_op (dop_add false) (dv 1) (de_int)) (nomark _))))) (db_cons (ds_if (dt_w (dw_and (dt_val (dv 7)) (dw_and1 (dt_cmp dop_is (dv 5) (de_non) (nomark _))))) (db_one (ds_set sc_stretches_of.nd rfl (by first | exact Or.inl rfl | exact Or.inr rfl) (dv 6))) (db_nil)) (db_one (ds_if (dt_w (dw_and (dt_not (dt_val (dv 7))) (dw_and1 (dt_cmp dop_isnot (dv 5) (de_non) (nomark _))))) (db_cons (ds_expr (de_mt PySem.F.plainAttrs_list PySem.F.slot_list_append PySem.F.type_list_append (dm_append) (dv 4) (da_cons (dmake n_Stretch hr passD (da_cons (dv 1) (da_cons (dv 5) (da_cons (de_lc false rfl sc_stretches_of.nd (di_r2 (by rfl) T.b_range (da_cons (dv 5) (da_cons (dv 6) (da_nil)))) (by exact blkOk_by (N := ["rows", "column", "begin", "end", "found", "first", "number", "is_closed", "k"]) (sc := defScope s_stretches_of) (own := [("k", 8)]) (by decide +kernel)) rfl (by decide) (fun _ _ _ _ _ => tg_one sc_stretches_of.nd rfl (by first | exact Or.inl rfl | exact Or.inr rfl)) (fun _ _ _ _ _ => dts_nil) (fun _ _ _ _ _ => de_ix rfl (de_ix rfl (dv 0) (dv 8) (fun _ _ => rfl)) (dv 1) (fun _ _ => rfl))) (da_nil))))) (da_nil)) (fun a b c => pe_bm PySem.F.plainAttrs_list PySem.F.slot_list_append PySem.F.type_list_append a b c))) (db_one (ds_set sc_stretches_of.nd rfl (by first | exact Or.inl rfl | exact Or.inr rfl) (de_non)))) (db_nil)))))) (db_one (ds_ret (dv 4))))), m, F.kp, F.binds (ps := ["rows", "column", "begin", "end"]) fun _ _ _ _ _ _ us hl => match us, hl with | [_, _, _, _], _ => rfl⟩
theorem sc_all_stretches : FnScope ["rows", "found", "column"] ["rows"] (defScope s_all_stretches) := ⟨rfl, rfl, rfl, by decide +kernel, rfl, by decide +kernel, by decide +kernel⟩
theorem ok_all_stretches {m_stretches_of : FV} {f : Addr} {fd : FuncData} (F : Fun W.K "all_stretches" "all_stretches" s_all_stretches f fd) (m : mg "all_stretches" = some (.ref f)) (T : Txt W mg) (c_stretches_of : Fn P w W mg base "stretches_of" 3 4 m_stretches_of) : Fn P w W mg base "all_stretches" (4) 1 (funD 3 (d_all_stretches m_stretches_of)) :=
  ⟨f, fd, ["rows"], fnE F sc_all_stretches rfl rfl fun cdv A outer sh H E hr => db_cons (ds_set sc_all_stretches.nd rfl (by first | exact Or.inl rfl | exact Or.inr rfl) (de_lst true (da_nil))) (db_cons (ds_for passF rfl (di_r1 (by rfl) T.b_range (da_cons (de_op dop_sub (de_globI rfl T.k_MOST_CELLS.choose_spec) (de_int)) (da_nil))) (dg_name sc_all_stretches.nd rfl (by first | exact Or.inl rfl | exact Or.inr rfl)) (db_one (ds_expr (de_mt PySem.F.plainAttrs_list PySem.F.slot_list_extend PySem.F.type_list_extend (dm_extend) (dv 1) (da_cons (dcall c_stretches_of hr passD (da_cons (dv 0) (da_cons (dv 2) (da_cons (de_int) (da_cons (de_callB dc_len (by rfl) T.b_len (by decide +kernel) (da_cons (dv 0) (da_nil)) (fun a b => pe_callB a (by rfl) T.b_len (by decide +kernel) b)) (da_nil)))))) (da_nil)) (fun a b c => pe_bm PySem.F.plainAttrs_list PySem.F.slot_list_extend PySem.F.type_list_extend a b c))))) (db_one (ds_ret (dv 1)))), m, F.kp, F.binds (ps := ["rows"]) fun _ _ _ _ _ _ us hl => match us, hl with | [_], _ => rfl⟩
theorem sc_stops : FnScope ["page", "style"] ["page", "style"] (defScope s_stops) := ⟨rfl, rfl, rfl, by decide +kernel, rfl, by decide +kernel, by decide +kernel⟩
theorem ok_stops {m_need_page m_need_style m_stops_by m_all_stretches : FV} {f : Addr} {fd : FuncData} (F : Fun W.K "stops" "stops" s_stops f fd) (m : mg "stops" = some (.ref f)) (T : Txt W mg) (c_need_page : Fn P w W mg base "need_page" 4 1 m_need_page) (c_need_style : Fn P w W mg base "need_style" 2 1 m_need_style) (c_stops_by : Fn P w W mg base "stops_by" 2 3 m_stops_by) (c_all_stretches : Fn P w W mg base "all_stretches" 4 1 m_all_stretches) : Fn P w W mg base "stops" (5) 2 (funD 2 (d_stops m_need_page m_need_style m_stops_by m_all_stretches)) :=
  ⟨f, fd, ["page", "style"], fnE F sc_stops rfl rfl fun cdv A outer sh H E hr => db_cons (ds_expr (dcall c_need_page hr passD (da_cons (dv 0) (da_nil)))) (db_cons (ds_expr (dcall c_need_style hr passD (da_cons (dv 1) (da_nil)))) (db_one (ds_ret (dcall c_stops_by hr passD (da_cons (dv 0) (da_cons (dv 1) (da_cons (dcall c_all_stretches hr passD (da_cons (dv 0) (da_nil))) (da_nil)))))))), m, F.kp, F.binds (ps := ["page", "style"]) fun _ _ _ _ _ _ us hl => match us, hl with | [_, _], _ => rfl⟩
theorem sc_is_figures : FnScope ["cell", "rest", "sign"] ["cell"] (defScope s_is_figures) := ⟨rfl, rfl, rfl, by decide +kernel, rfl, by decide +kernel, by decide +kernel⟩
theorem ok_is_figures {f : Addr} {fd : FuncData} (F : Fun W.K "is_figures" "is_figures" s_is_figures f fd) (m : mg "is_figures" = some (.ref f)) (T : Txt W mg)  : Fn P w W mg base "is_figures" (1) 1 (funD 3 d_is_figures) :=
  ⟨f, fd, ["cell"], fnE F sc_is_figures rfl rfl fun cdv A outer sh H E hr => db_cons (ds_set sc_is_figures.nd rfl (by first | exact Or.inl rfl | exact Or.inr rfl) (de_if (dt_cmp (dop_eq rfl hr.units) (de_sl false rfl (dv 0) (dp_none) (dp_some (de_int))) (de_str (by decide +kernel) (by decide +kernel)) (nomark _)) (de_sl false rfl (dv 0) (dp_some (de_int)) (dp_none)) (dv 0))) (db_one (ds_ret (de_and (de_cmp (dop_ne rfl hr.units) (dv 1) (de_str (by decide +kernel) (by decide +kernel)) (nomark _)) (de_one (de_cmp (dop_eq rfl hr.units) (de_lc false rfl sc_is_figures.nd (di_seq (dv 1)) (by exact blkOk_by (N := ["cell", "rest", "sign"]) (sc := defScope s_is_figures) (own := [("sign", 2)]) (by decide +kernel)) rfl (by decide) (fun _ _ _ _ _ => tg_one sc_is_figures.nd rfl (by first | exact Or.inl rfl | exact Or.inr rfl)) (fun _ _ _ _ _ => dts_one (dt_cmp (dop_notin rfl) (dv 2) (de_globS rfl T.k_FIGURES.choose_spec (by decide +kernel) (by decide +kernel)) (by rfl))) (fun _ _ _ _ _ => dv 2)) (de_lst false (da_nil)) (nomark _)))))), m, F.kp, F.binds (ps := ["cell"]) fun _ _ _ _ _ _ us hl => match us, hl with | [_], _ => rfl⟩
theorem sc_Stretch_is_right : FnScope ["self", "full", "cell"] ["self"] (defScope s_Stretch_is_right) := ⟨rfl, rfl, rfl, by decide +kernel, rfl, by decide +kernel, by decide +kernel⟩
theorem ok_Stretch_is_right {m_is_figures : FV} {f : Addr} {fd : FuncData} (F : Fun W.K "is_right" "Stretch.is_right" s_Stretch_is_right f fd) (M : Meth W.K (W.cls 12) "is_right" f) (T : Txt W mg) (c_is_figures : Fn P w W mg base "is_figures" 1 1 m_is_figures) : Mt P w W mg base 12 "is_right" (2) 1 (funD 3 (d_Stretch_is_right m_is_figures)) :=
  ⟨⟨f, fd, ["self"], fnE F sc_Stretch_is_right rfl rfl fun cdv A outer sh H E hr => db_cons (ds_setLc false rfl sc_Stretch_is_right.nd rfl rfl (sw_true rfl rfl rfl (by decide +kernel)) (di_seq (de_fld rfl (dv 0) T.cl_Stretch T.na_Stretch_cells)) (by exact blkOk_by (N := ["self", "full", "cell"]) (sc := defScope s_Stretch_is_right) (own := [("cell", 2)]) (by decide +kernel)) rfl (by decide) (fun _ _ _ _ _ => tg_one sc_Stretch_is_right.nd rfl (by first | exact Or.inl rfl | exact Or.inr rfl)) (fun _ _ _ _ _ => dts_one (dt_cmp (dop_ne rfl hr.units) (dv 2) (de_str (by decide +kernel) (by decide +kernel)) (nomark _))) (fun _ _ _ _ _ => dv 2)) (db_one (ds_ret (de_and (de_cmp (dop_ne rfl hr.units) (dv 1) (de_lst false (da_nil)) (nomark _)) (de_one (de_cmp (dop_eq rfl hr.units) (de_lc false rfl sc_Stretch_is_right.nd (di_seq (dv 1)) (by exact blkOk_by (N := ["self", "full", "cell"]) (sc := defScope s_Stretch_is_right) (own := [("cell", 2)]) (by decide +kernel)) rfl (by decide) (fun _ _ _ _ _ => tg_one sc_Stretch_is_right.nd rfl (by first | exact Or.inl rfl | exact Or.inr rfl)) (fun _ _ _ _ _ => dts_one (dt_not (dt_val (dcall c_is_figures hr passL (da_cons (dv 2) (da_nil)))))) (fun _ _ _ _ _ => dv 2)) (de_lst false (da_nil)) (nomark _)))))), M, F.binds (ps := ["self"]) fun _ _ _ _ _ _ us hl => match us, hl with | [_], _ => rfl⟩, T.cl_Stretch⟩
theorem sc_begins_by : FnScope ["rows", "style", "some", "found", "one", "k", "row"] ["rows", "style", "some"] (defScope s_begins_by) := ⟨rfl, rfl, rfl, by decide +kernel, rfl, by decide +kernel, by decide +kernel⟩
theorem ok_begins_by {m_stops_by m_Stretch_is_right m_Stretch_width : FV} {f : Addr} {fd : FuncData} (F : Fun W.K "begins_by" "begins_by" s_begins_by f fd) (m : mg "begins_by" = some (.ref f)) (T : Txt W mg) (c_stops_by : Fn P w W mg base "stops_by" 2 3 m_stops_by) (c_Stretch_is_right : Mt P w W mg base 12 "is_right" 2 1 m_Stretch_is_right) (c_Stretch_width : Mt P w W mg base 12 "width" 1 2 m_Stretch_width) : Fn P w W mg base "begins_by" (3) 3 (funD 7 (d_begins_by m_stops_by m_Stretch_is_right m_Stretch_width)) :=
  ⟨f, fd, ["rows", "style", "some"], fnE F sc_begins_by rfl rfl fun cdv A outer sh H E hr => db_cons (ds_set sc_begins_by.nd rfl (by first | exact Or.inl rfl | exact Or.inr rfl) (dcall c_stops_by hr passD (da_cons (dv 0) (da_cons (dv 1) (da_cons (dv 2) (da_nil)))))) (db_cons (ds_for passF rfl (di_seq (dv 2)) (dg_name sc_begins_by.nd rfl (by first | exact Or.inl rfl | exact Or.inr rfl)) (db_one (ds_if (dt_val (dmeth0 c_Stretch_is_right (dv 4) hr passD)) (db_one (ds_for passF rfl (di_r1 (by rfl) T.b_range (da_cons (de_callB dc_len (by rfl) T.b_len (by decide +kernel) (da_cons (de_fld rfl (dv 4) T.cl_Stretch T.na_Stretch_cells) (da_nil)) (fun a b => pe_callB a (by rfl) T.b_len (by decide +kernel) b)) (da_nil))) (dg_name sc_begins_by.nd rfl (by first | exact Or.inl rfl | exact Or.inr rfl)) (db_cons (ds_set sc_begins_by.nd rfl (by first | exact Or.inl rfl | exact Or.inr rfl) (de_ix rfl (dv 3) (de_op (dop_add false) (de_fld rfl (dv 4) T.cl_Stretch T.na_Stretch_begin) (dv 5)) (fun _ _ => rfl))) (db_one (ds_asg (de_op dop_sub (de_op dop_sub (de_op (dop_add false) (de_ix rfl (dv 6) (de_fld rfl (dv 4) T.cl_Stretch T.na_Stretch_column) (fun _ _ => rfl)) (dmeth c_Stretch_width (dv 4) hr passD (da_cons (dv 1) (da_nil)))) (de_ix rfl (dv 1) (de_int) (fun _ _ => rfl))) (de_callB dc_len (by rfl) T.b_len (by decide +kernel) (da_cons (de_ix rfl (de_fld rfl (dv 4) T.cl_Stretch T.na_Stretch_cells) (dv 5) (fun _ _ => rfl)) (da_nil)) (fun a b => pe_callB a (by rfl) T.b_len (by decide +kernel) b))) (dg_sub (dv 6) (de_fld rfl (dv 4) T.cl_Stretch T.na_Stretch_column) dset_list)))))) (db_nil)))) (db_one (ds_ret (dv 3)))), m, F.kp, F.binds (ps := ["rows", "style", "some"]) fun _ _ _ _ _ _ us hl => match us, hl with | [_, _, _], _ => rfl⟩
theorem sc_laid : FnScope ["page", "style"] ["page", "style"] (defScope s_laid) := ⟨rfl, rfl, rfl, by decide +kernel, rfl, by decide +kernel, by decide +kernel⟩
theorem ok_laid {m_need_page m_need_style m_begins_by m_all_stretches : FV} {f : Addr} {fd : FuncData} (F : Fun W.K "laid" "laid" s_laid f fd) (m : mg "laid" = some (.ref f)) (T : Txt W mg) (c_need_page : Fn P w W mg base "need_page" 4 1 m_need_page) (c_need_style : Fn P w W mg base "need_style" 2 1 m_need_style) (c_begins_by : Fn P w W mg base "begins_by" 3 3 m_begins_by) (c_all_stretches : Fn P w W mg base "all_stretches" 4 1 m_all_stretches) : Fn P w W mg base "laid" (5) 2 (funD 2 (d_laid m_need_page m_need_style m_begins_by m_all_stretches)) :=
  ⟨f, fd, ["page", "style"], fnE F sc_laid rfl rfl fun cdv A outer sh H E hr => db_cons (ds_expr (dcall c_need_page hr passD (da_cons (dv 0) (da_nil)))) (db_cons (ds_expr (dcall c_need_style hr passD (da_cons (dv 1) (da_nil)))) (db_one (ds_ret (dcall c_begins_by hr passD (da_cons (dv 0) (da_cons (dv 1) (da_cons (dcall c_all_stretches hr passD (da_cons (dv 0) (da_nil))) (da_nil)))))))), m, F.kp, F.binds (ps := ["page", "style"]) fun _ _ _ _ _ _ us hl => match us, hl with | [_, _], _ => rfl⟩
theorem sc_line_of : FnScope ["row", "begins", "found", "cell", "begin"] ["row", "begins"] (defScope s_line_of) := ⟨rfl, rfl, rfl, by decide +kernel, rfl, by decide +kernel, by decide +kernel⟩
theorem ok_line_of {f : Addr} {fd : FuncData} (F : Fun W.K "line_of" "line_of" s_line_of f fd) (m : mg "line_of" = some (.ref f)) (T : Txt W mg)  : Fn P w W mg base "line_of" (1) 2 (funD 5 d_line_of) :=
  ⟨f, fd, ["row", "begins"], fnE F sc_line_of rfl rfl fun cdv A outer sh H E hr => db_cons (ds_set sc_line_of.nd rfl (by first | exact Or.inl rfl | exact Or.inr rfl) (de_str (by decide +kernel) (by decide +kernel))) (db_cons (ds_for passF rfl (di_zipM (by rfl) T.b_zip (da_cons (dv 0) (da_cons (dv 1) (da_nil)))) (dg_tup rfl (dgs_cons (dg_name sc_line_of.nd rfl (by first | exact Or.inl rfl | exact Or.inr rfl)) (dgs_cons (dg_name sc_line_of.nd rfl (by first | exact Or.inl rfl | exact Or.inr rfl)) (dgs_nil)))) (db_one (ds_if (dt_cmp (dop_ne rfl hr.units) (dv 3) (de_str (by decide +kernel) (by decide +kernel)) (nomark _)) (db_one (ds_set sc_line_of.nd rfl (by first | exact Or.inl rfl | exact Or.inr rfl) (de_op (dop_add false) (de_mt PySem.F.plainAttrs_str PySem.F.slot_str_ljust PySem.F.type_str_ljust (dm_ljust) (dv 2) (da_cons (dv 4) (da_nil)) (fun a b c => pe_bm PySem.F.plainAttrs_str PySem.F.slot_str_ljust PySem.F.type_str_ljust a b c)) (dv 3)))) (db_nil)))) (db_one (ds_ret (dv 2)))), m, F.kp, F.binds (ps := ["row", "begins"]) fun _ _ _ _ _ _ us hl => match us, hl with | [_, _], _ => rfl⟩
theorem sc_shown : FnScope ["page", "style", "found", "row", "begins"] ["page", "style"] (defScope s_shown) := ⟨rfl, rfl, rfl, by decide +kernel, rfl, by decide +kernel, by decide +kernel⟩
theorem ok_shown {m_laid m_line_of : FV} {f : Addr} {fd : FuncData} (F : Fun W.K "shown" "shown" s_shown f fd) (m : mg "shown" = some (.ref f)) (T : Txt W mg) (c_laid : Fn P w W mg base "laid" 5 2 m_laid) (c_line_of : Fn P w W mg base "line_of" 1 2 m_line_of) : Fn P w W mg base "shown" (6) 2 (funD 5 (d_shown m_laid m_line_of)) :=
  ⟨f, fd, ["page", "style"], fnE F sc_shown rfl rfl fun cdv A outer sh H E hr => db_cons (ds_set sc_shown.nd rfl (by first | exact Or.inl rfl | exact Or.inr rfl) (dcall c_laid hr passD (da_cons (dv 0) (da_cons (dv 1) (da_nil))))) (db_one (ds_ret (de_lc true rfl sc_shown.nd (di_zip (by rfl) T.b_zip (da_cons (dv 0) (da_cons (dv 2) (da_nil)))) (by exact blkOk_by (N := ["page", "style", "found", "row", "begins"]) (sc := defScope s_shown) (own := [("row", 3), ("begins", 4)]) (by decide +kernel)) rfl (by decide) (fun _ _ _ _ _ => tg_two rfl (pg_name sc_shown.nd rfl (by first | exact Or.inl rfl | exact Or.inr rfl)) (pg_name sc_shown.nd rfl (by first | exact Or.inl rfl | exact Or.inr rfl))) (fun _ _ _ _ _ => dts_nil) (fun _ _ _ _ _ => dcall c_line_of hr passL (da_cons (dv 3) (da_cons (dv 4) (da_nil))))))), m, F.kp, F.binds (ps := ["page", "style"]) fun _ _ _ _ _ _ us hl => match us, hl with | [_, _], _ => rfl⟩
theorem sc_law_plain : FnScope ["_law_page_here", "_law_found", "_law_row_here", "_law_cells", "_law_cell_here"] ["_law_page_here"] (defScope s_law_plain) := ⟨rfl, rfl, rfl, by decide +kernel, rfl, by decide +kernel, by decide +kernel⟩
theorem ok_law_plain {f : Addr} {fd : FuncData} (F : Fun W.K "_law_plain" "_law_plain" s_law_plain f fd) (m : mg "_law_plain" = some (.ref f)) (T : Txt W mg)  : Fn P w W mg base "_law_plain" (1) 1 (funD 5 d_law_plain) :=
  ⟨f, fd, ["_law_page_here"], fnET F sc_law_plain (by decide +kernel) (by decide) rfl rfl fun cdv A outer sh H E hr => dbt_cons (dst_of (ds_set sc_law_plain.nd rfl (by first | exact Or.inl rfl | exact Or.inr rfl) (de_lst true (da_nil)))) (dbt_cons (dst_for passF rfl (di_seq (dv 0)) (dg_name sc_law_plain.nd rfl (by first | exact Or.inl rfl | exact Or.inr rfl)) (dbt_cons (dst_setLcT false rfl sc_law_plain.nd rfl rfl (sw_true rfl rfl rfl (by decide +kernel)) (di_seq (dv 2)) (by exact blkOk_by (N := ["_law_page_here", "_law_found", "_law_row_here", "_law_cells", "_law_cell_here"]) (sc := defScope s_law_plain) (own := [("_law_cell_here", 4)]) (by decide +kernel)) rfl (by decide) (fun _ _ _ _ _ => tg_one sc_law_plain.nd rfl (by first | exact Or.inl rfl | exact Or.inr rfl)) (fun _ _ _ _ _ => dts_nil) (fun _ _ _ _ _ => det_repl (dv 4) (by decide +kernel) (by decide +kernel) (by decide))) (dbt_of (db_one (ds_expr (de_mt PySem.F.plainAttrs_list PySem.F.slot_list_append PySem.F.type_list_append (dm_append) (dv 1) (da_cons (de_callTy dc_tup (by rfl) T.b_tuple (by decide +kernel) (da_cons (de_lc false rfl sc_law_plain.nd (di_seq (dv 3)) (by exact blkOk_by (N := ["_law_page_here", "_law_found", "_law_row_here", "_law_cells", "_law_cell_here"]) (sc := defScope s_law_plain) (own := [("_law_cell_here", 4)]) (by decide +kernel)) rfl (by decide) (fun _ _ _ _ _ => tg_one sc_law_plain.nd rfl (by first | exact Or.inl rfl | exact Or.inr rfl)) (fun _ _ _ _ _ => dts_nil) (fun _ _ _ _ _ => de_if (dt_cmp (dop_ne rfl hr.units) (dv 4) (de_str (by decide +kernel) (by decide +kernel)) (nomark _)) (dv 4) (de_str (by decide +kernel) (by decide +kernel)))) (da_nil)) (fun a b => pe_callTy a (by rfl) T.b_tuple (by decide +kernel) b)) (da_nil)) (fun a b c => pe_bm PySem.F.plainAttrs_list PySem.F.slot_list_append PySem.F.type_list_append a b c))))))) (dbt_of (db_one (ds_ret (dv 1))))), m, F.kp, F.binds (ps := ["_law_page_here"]) fun _ _ _ _ _ _ us hl => match us, hl with | [_], _ => rfl⟩
theorem sc_guessed : FnScope ["lines", "found", "line", "some", "part"] ["lines"] (defScope s_guessed) := ⟨rfl, rfl, rfl, by decide +kernel, rfl, by decide +kernel, by decide +kernel⟩
theorem ok_guessed {m_need_lines_k07 : FV} {f : Addr} {fd : FuncData} (F : Fun W.K "guessed" "guessed" s_guessed f fd) (m : mg "guessed" = some (.ref f)) (T : Txt W mg) (c_need_lines : Fn P w W mg base "need_lines" 3 1 m_need_lines_k07) : Fn P w W mg base "guessed" (4) 1 (funD 5 (d_guessed m_need_lines_k07)) :=
  ⟨f, fd, ["lines"], fnE F sc_guessed rfl rfl fun cdv A outer sh H E hr => db_cons (ds_expr (dcall c_need_lines hr passD (da_cons (dv 0) (da_nil)))) (db_cons (ds_set sc_guessed.nd rfl (by first | exact Or.inl rfl | exact Or.inr rfl) (de_lst true (da_nil))) (db_cons (ds_for passF rfl (di_seq (dv 0)) (dg_name sc_guessed.nd rfl (by first | exact Or.inl rfl | exact Or.inr rfl)) (db_cons (ds_setLc false rfl sc_guessed.nd rfl rfl (sw_true rfl rfl rfl (by decide +kernel)) (di_seq (de_mt PySem.F.plainAttrs_str PySem.F.slot_str_split PySem.F.type_str_split (dm_split false) (de_mt PySem.F.plainAttrs_str PySem.F.slot_str_strip PySem.F.type_str_strip (dm_strip) (dv 2) (da_cons (de_str (by decide +kernel) (by decide +kernel)) (da_nil)) (fun a b c => pe_bm PySem.F.plainAttrs_str PySem.F.slot_str_strip PySem.F.type_str_strip a b c)) (da_cons (de_str (by decide +kernel) (by decide +kernel)) (da_nil)) (fun a b c => pe_bm PySem.F.plainAttrs_str PySem.F.slot_str_split PySem.F.type_str_split a b c))) (by exact blkOk_by (N := ["lines", "found", "line", "some", "part"]) (sc := defScope s_guessed) (own := [("part", 4)]) (by decide +kernel)) rfl (by decide) (fun _ _ _ _ _ => tg_one sc_guessed.nd rfl (by first | exact Or.inl rfl | exact Or.inr rfl)) (fun _ _ _ _ _ => dts_one (dt_cmp (dop_ne rfl hr.units) (dv 4) (de_str (by decide +kernel) (by decide +kernel)) (nomark _))) (fun _ _ _ _ _ => de_mt PySem.F.plainAttrs_str PySem.F.slot_str_strip PySem.F.type_str_strip (dm_strip) (dv 4) (da_cons (de_str (by decide +kernel) (by decide +kernel)) (da_nil)) (fun a b c => pe_bm PySem.F.plainAttrs_str PySem.F.slot_str_strip PySem.F.type_str_strip a b c))) (db_one (ds_expr (de_mt PySem.F.plainAttrs_list PySem.F.slot_list_append PySem.F.type_list_append (dm_append) (dv 1) (da_cons (de_if (dt_cmp (dop_ne rfl hr.units) (dv 3) (de_lst false (da_nil)) (nomark _)) (de_callTy dc_tup (by rfl) T.b_tuple (by decide +kernel) (da_cons (dv 3) (da_nil)) (fun a b => pe_callTy a (by rfl) T.b_tuple (by decide +kernel) b)) (de_tup (da_cons (de_str (by decide +kernel) (by decide +kernel)) (da_nil)))) (da_nil)) (fun a b c => pe_bm PySem.F.plainAttrs_list PySem.F.slot_list_append PySem.F.type_list_append a b c)))))) (db_one (ds_ret (dv 1))))), m, F.kp, F.binds (ps := ["lines"]) fun _ _ _ _ _ _ us hl => match us, hl with | [_], _ => rfl⟩
theorem sc_law : FnScope ["_law_script", "_law_box", "_law_turn", "_law_page_here", "_law_style_here", "_law_bare_here", "_law_plain_here", "_law_wide"] ["_law_script"] (defScope s_law) := ⟨rfl, rfl, rfl, by decide +kernel, rfl, by decide +kernel, by decide +kernel⟩
theorem ok_law {m_law_begun m_law_page m_law_take m_law_style m_law_bare m_law_alike m_read_back_k07 m_stops m_shown m_law_plain m_guessed : FV} {f : Addr} {fd : FuncData} (F : Fun W.K "law" "law" s_law f fd) (T : Txt W mg) (c_law_begun : Fn P w W mg base "_law_begun" 1 1 m_law_begun) (c_law_page : Fn P w W mg base "_law_page" 5 2 m_law_page) (c_law_take : Fn P w W mg base "_law_take" 1 2 m_law_take) (c_law_style : Fn P w W mg base "_law_style" 2 1 m_law_style) (c_law_bare : Fn P w W mg base "_law_bare" 1 1 m_law_bare) (c_law_alike : Fn P w W mg base "_law_alike" 8 2 m_law_alike) (c_read_back : Fn P w W mg base "read_back" 4 2 m_read_back_k07) (c_stops : Fn P w W mg base "stops" 5 2 m_stops) (c_shown : Fn P w W mg base "shown" 6 2 m_shown) (c_law_plain : Fn P w W mg base "_law_plain" 1 1 m_law_plain) (c_guessed : Fn P w W mg base "guessed" 4 1 m_guessed) : FnOk P w W.K mg base (L2.CX P w) 9 f fd ["_law_script"] (spD W 1 (funD 8 (d_law_k07 m_law_begun m_law_page m_law_take m_law_style m_law_bare m_law_alike m_read_back_k07 m_stops m_shown m_law_plain m_guessed))) :=
  fnE F sc_law rfl rfl fun cdv A outer sh H E hr => db_cons (ds_set sc_law.nd rfl (by first | exact Or.inl rfl | exact Or.inr rfl) (dcall c_law_begun hr passD (da_cons (dv 0) (da_nil)))) (db_cons (ds_for passF rfl (di_r1 (by rfl) T.b_range (da_cons (de_int) (da_nil))) (dg_name sc_law.nd rfl (by first | exact Or.inl rfl | exact Or.inr rfl)) (db_cons (ds_par rfl sc_law.nd rfl rfl (by decide) rfl rfl (da_cons (dcall c_law_page hr passD (da_cons (dv 1) (da_cons (de_ix rfl (de_lst false (da_cons (de_int) (da_cons (de_int) (da_nil)))) (dcall c_law_take hr passD (da_cons (dv 1) (da_cons (de_int) (da_nil)))) (fun _ _ => rfl)) (da_nil)))) (da_cons (dcall c_law_style hr passD (da_cons (dv 1) (da_nil))) (da_nil))) (by rfl)) (db_cons (ds_set sc_law.nd rfl (by first | exact Or.inl rfl | exact Or.inr rfl) (dcall c_law_bare hr passD (da_cons (dv 3) (da_nil)))) (db_cons (ds_if (dt_not (dt_val (dcall c_law_alike hr passD (da_cons (dcall c_read_back hr passD (da_cons (dcall c_shown hr passD (da_cons (dv 5) (da_cons (dv 4) (da_nil)))) (da_cons (dcall c_stops hr passD (da_cons (dv 5) (da_cons (dv 4) (da_nil)))) (da_nil)))) (da_cons (dv 5) (da_nil)))))) (db_one (ds_ret (de_bl))) (db_nil)) (db_cons (ds_if (dt_not (dt_val (dcall c_law_alike hr passD (da_cons (dcall c_read_back hr passD (da_cons (dcall c_shown hr passD (da_cons (dv 3) (da_cons (dv 4) (da_nil)))) (da_cons (dcall c_stops hr passD (da_cons (dv 3) (da_cons (dv 4) (da_nil)))) (da_nil)))) (da_cons (dv 5) (da_nil)))))) (db_one (ds_ret (de_bl))) (db_nil)) (db_cons (ds_par rfl sc_law.nd rfl rfl (by decide) rfl rfl (da_cons (dcall c_law_plain hr passD (da_cons (dv 3) (da_nil))) (da_cons (de_tup (da_cons (de_op (dop_add false) (de_int) (de_op dop_div (de_ix rfl (dv 4) (de_int) (fun _ _ => rfl)) (de_int))) (da_cons (de_ix rfl (dv 4) (de_int) (fun _ _ => rfl)) (da_nil)))) (da_nil))) (by rfl)) (db_cons (ds_if (dt_not (dt_val (dcall c_law_alike hr passD (da_cons (dcall c_guessed hr passD (da_cons (dcall c_shown hr passD (da_cons (dv 6) (da_cons (dv 7) (da_nil)))) (da_nil))) (da_cons (dv 6) (da_nil)))))) (db_one (ds_ret (de_bl))) (db_nil)) (db_one (ds_if (dt_cmp (dop_ne rfl hr.units) (dcall c_shown hr passD (da_cons (dcall c_read_back hr passD (da_cons (dcall c_shown hr passD (da_cons (dv 5) (da_cons (dv 4) (da_nil)))) (da_cons (dcall c_stops hr passD (da_cons (dv 5) (da_cons (dv 4) (da_nil)))) (da_nil)))) (da_cons (dv 4) (da_nil)))) (dcall c_shown hr passD (da_cons (dv 5) (da_cons (dv 4) (da_nil)))) (nomark _)) (db_one (ds_ret (de_bl))) (db_nil)))))))))) (db_one (ds_ret (de_bl))))
end
theorem all_mk {l : PySem.W.OpenLaw} {w : World} {K : PySem.W.Frag} {h : Heap} {mg : Str → Option Value} {fa C1 f1 f2 f3 f4 f5 f6 f7 f8 f9 f10 f11 f12 f13 f14 f15 f16 f17 f18 f19 f20 f21 f22 f23 f24 f25 f26 f27 f28 f29 f30 f31 f32 f33 f34 : Addr} (HT : ∀ ns : List Int, ns.length ≤ 63 → ∃ st, m_law_k07 [.scr ns] [] = .ok (.bl true, st)) (X : K.In h) (G : h.Ns mainGlobals mg) (hfa : mg "law" = some (.ref fa))
    {od1 od2 od3 od4 od5 od6 od7 od8 od9 od10 od11 od12 od13 od14 od15 od16 od17 od18 od19 od20 od21 od22 od23 od24 od25 od26 od27 od28 od29 od30 od31 od32 od33 od34 an1 an2 an3 an4 an5 an6 an7 an8 an9 an10 an11 an12 an13 an14 an15 an16 an17 an18 an19 an20 an21 an22 an23 an24 an25 an26 an27 an28 an29 an30 an31 an32 an33 an34 : Option Addr} {sl1 sl2 sl3 sl4 sl5 sl6 sl7 sl8 sl9 sl10 sl11 sl12 sl13 sl14 sl15 sl16 sl17 sl18 sl19 sl20 sl21 sl22 sl23 sl24 sl25 sl26 sl27 sl28 sl29 sl30 sl31 sl32 sl33 sl34 : Array (Option Value)} {oc1 oc2 oc3 oc4 oc5 oc6 oc7 oc8 oc9 oc10 oc11 oc12 oc13 oc14 oc15 oc16 oc17 oc18 oc19 oc20 oc21 oc22 oc23 oc24 oc25 oc26 oc27 oc28 oc29 oc30 oc31 oc32 oc33 oc34 kV1 kV2 kV3 kV4 kV5 kV6 kV7 kV8 kV9 kV10 kV11 kV12 kV13 kV14 kV15 kV16 kV17 kV18 kV19 kV20 kV21 kV22 kV23 kV24 kV25 kV26 kV27 kV28 kV29 kV30 kV31 kV32 kV33 kV34 dc1 dc2 dc3 dc4 dc5 dc6 dc7 dc8 dc9 dc10 dc11 dc12 dc13 dc14 dc15 dc16 dc17 dc18 dc19 dc20 dc21 dc22 dc23 dc24 dc25 dc26 dc27 dc28 dc29 dc30 dc31 dc32 dc33 dc34 pm1 pm2 pm3 pm4 pm5 pm6 pm7 pm8 pm9 pm10 pm11 pm12 pm13 pm14 pm15 pm16 pm17 pm18 pm19 pm20 pm21 pm22 pm23 pm24 pm25 pm26 pm27 pm28 pm29 pm30 pm31 pm32 pm33 pm34 cd1 cd2 cd3 cd4 cd5 cd6 cd7 cd8 cd9 cd10 cd11 cd12 cd13 cd14 cd15 cd16 cd17 cd18 cd19 cd20 cd21 cd22 cd23 cd24 cd25 cd26 cd27 cd28 cd29 cd30 cd31 cd32 cd33 cd34 ct1 ct2 ct3 ct4 ct5 ct6 ct7 ct8 ct9 ct10 ct11 ct12 ct13 ct14 ct15 ct16 ct17 ct18 ct19 ct20 ct21 ct22 ct23 ct24 ct25 ct26 ct27 ct28 ct29 ct30 ct31 ct32 ct33 ct34 : Value} {t_FIRST_SIGN t_LAST_SIGN t_BARRED t_MOST_WIDE t_MOST_ROWS t_MOST_SIGNS t_MOST_CELLS t_MOST_GAP t_MOST_LEAST t_FIGURES : Tok}
    (zb_len : PySem.W.nsIn K mainGlobals "len" = some none)
    (zb_int : PySem.W.nsIn K mainGlobals "int" = some none)
    (zb_list : PySem.W.nsIn K mainGlobals "list" = some none)
    (zb_str : PySem.W.nsIn K mainGlobals "str" = some none)
    (zb_range : PySem.W.nsIn K mainGlobals "range" = some none)
    (zb_tuple : PySem.W.nsIn K mainGlobals "tuple" = some none)
    (zb_min : PySem.W.nsIn K mainGlobals "min" = some none)
    (zb_max : PySem.W.nsIn K mainGlobals "max" = some none)
    (zb_bool : PySem.W.nsIn K mainGlobals "bool" = some none)
    (zb_isinstance : PySem.W.nsIn K mainGlobals "isinstance" = some none)
    (zb_ord : PySem.W.nsIn K mainGlobals "ord" = some none)
    (zb_enumerate : PySem.W.nsIn K mainGlobals "enumerate" = some none)
    (zb_zip : PySem.W.nsIn K mainGlobals "zip" = some none)
    (zk_FIRST_SIGN : PySem.W.nsIn K mainGlobals "FIRST_SIGN" = some (some (.str " " t_FIRST_SIGN)))
    (zk_LAST_SIGN : PySem.W.nsIn K mainGlobals "LAST_SIGN" = some (some (.str "~" t_LAST_SIGN)))
    (zk_BARRED : PySem.W.nsIn K mainGlobals "BARRED" = some (some (.int (37) t_BARRED)))
    (zk_MOST_WIDE : PySem.W.nsIn K mainGlobals "MOST_WIDE" = some (some (.int (200) t_MOST_WIDE)))
    (zk_MOST_ROWS : PySem.W.nsIn K mainGlobals "MOST_ROWS" = some (some (.int (30) t_MOST_ROWS)))
    (zk_MOST_SIGNS : PySem.W.nsIn K mainGlobals "MOST_SIGNS" = some (some (.int (10) t_MOST_SIGNS)))
    (zk_MOST_CELLS : PySem.W.nsIn K mainGlobals "MOST_CELLS" = some (some (.int (6) t_MOST_CELLS)))
    (zk_MOST_GAP : PySem.W.nsIn K mainGlobals "MOST_GAP" = some (some (.int (4) t_MOST_GAP)))
    (zk_MOST_LEAST : PySem.W.nsIn K mainGlobals "MOST_LEAST" = some (some (.int (12) t_MOST_LEAST)))
    (zk_FIGURES : PySem.W.nsIn K mainGlobals "FIGURES" = some (some (.str "0123456789" t_FIGURES)))
    (aC_Stretch : PySem.W.nsIn K mainGlobals "Stretch" = some (some (.ref C1)))
    (pg_Stretch : PySem.W.plainGet K C1 Str.empty = true)
    (hd_Stretch : PySem.W.hasDictIn K C1 = true)
    (po_Stretch : PySem.W.plainOver K C1 = true)
    (sa_Stretch : PySem.W.findIn K (.ref C1) "__setattr__" = some (some (.builtin "object.__setattr__")))
    (mk_Stretch : PySem.W.makesIn K C1 = true)
    (kc_Stretch : PySem.W.keepIn K (.ref C1) = true)
    (nf_Stretch_cells : PySem.W.findIn K (.ref C1) "cells" = some none)
    (nf_Stretch_end : PySem.W.findIn K (.ref C1) "end" = some none)
    (nf_Stretch_begin : PySem.W.findIn K (.ref C1) "begin" = some none)
    (nf_Stretch_column : PySem.W.findIn K (.ref C1) "column" = some none)
    (a1 : PySem.W.nsIn K mainGlobals "_law_begun" = some (some (.ref f1)))
    (l1 : K.lookup f1 = some ⟨oc1, od1, .func (PySem.W.fnOf "_law_begun" "_law_begun" (defArgs s_law_begun) (defBody s_law_begun) (defScope s_law_begun) .none kV1 dc1 pm1 an1 cd1 ct1), sl1⟩)
    (c1 : PySem.W.codeIn K cd1 "_law_begun" = true)
    (k1 : PySem.W.keepIn K (.ref f1) = true)
    (a2 : PySem.W.nsIn K mainGlobals "_law_take" = some (some (.ref f2)))
    (l2 : K.lookup f2 = some ⟨oc2, od2, .func (PySem.W.fnOf "_law_take" "_law_take" (defArgs s_law_take) (defBody s_law_take) (defScope s_law_take) .none kV2 dc2 pm2 an2 cd2 ct2), sl2⟩)
    (c2 : PySem.W.codeIn K cd2 "_law_take" = true)
    (k2 : PySem.W.keepIn K (.ref f2) = true)
    (a3 : PySem.W.nsIn K mainGlobals "_law_sign" = some (some (.ref f3)))
    (l3 : K.lookup f3 = some ⟨oc3, od3, .func (PySem.W.fnOf "_law_sign" "_law_sign" (defArgs s_law_sign) (defBody s_law_sign) (defScope s_law_sign) .none kV3 dc3 pm3 an3 cd3 ct3), sl3⟩)
    (c3 : PySem.W.codeIn K cd3 "_law_sign" = true)
    (k3 : PySem.W.keepIn K (.ref f3) = true)
    (a4 : PySem.W.nsIn K mainGlobals "_law_cell" = some (some (.ref f4)))
    (l4 : K.lookup f4 = some ⟨oc4, od4, .func (PySem.W.fnOf "_law_cell" "_law_cell" (defArgs s_law_cell) (defBody s_law_cell) (defScope s_law_cell) .none kV4 dc4 pm4 an4 cd4 ct4), sl4⟩)
    (c4 : PySem.W.codeIn K cd4 "_law_cell" = true)
    (k4 : PySem.W.keepIn K (.ref f4) = true)
    (a5 : PySem.W.nsIn K mainGlobals "_law_row" = some (some (.ref f5)))
    (l5 : K.lookup f5 = some ⟨oc5, od5, .func (PySem.W.fnOf "_law_row" "_law_row" (defArgs s_law_row) (defBody s_law_row) (defScope s_law_row) .none kV5 dc5 pm5 an5 cd5 ct5), sl5⟩)
    (c5 : PySem.W.codeIn K cd5 "_law_row" = true)
    (k5 : PySem.W.keepIn K (.ref f5) = true)
    (a6 : PySem.W.nsIn K mainGlobals "_law_page" = some (some (.ref f6)))
    (l6 : K.lookup f6 = some ⟨oc6, od6, .func (PySem.W.fnOf "_law_page" "_law_page" (defArgs s_law_page) (defBody s_law_page) (defScope s_law_page) .none kV6 dc6 pm6 an6 cd6 ct6), sl6⟩)
    (c6 : PySem.W.codeIn K cd6 "_law_page" = true)
    (k6 : PySem.W.keepIn K (.ref f6) = true)
    (a7 : PySem.W.nsIn K mainGlobals "_law_style" = some (some (.ref f7)))
    (l7 : K.lookup f7 = some ⟨oc7, od7, .func (PySem.W.fnOf "_law_style" "_law_style" (defArgs s_law_style) (defBody s_law_style) (defScope s_law_style) .none kV7 dc7 pm7 an7 cd7 ct7), sl7⟩)
    (c7 : PySem.W.codeIn K cd7 "_law_style" = true)
    (k7 : PySem.W.keepIn K (.ref f7) = true)
    (a8 : PySem.W.nsIn K mainGlobals "_law_bare" = some (some (.ref f8)))
    (l8 : K.lookup f8 = some ⟨oc8, od8, .func (PySem.W.fnOf "_law_bare" "_law_bare" (defArgs s_law_bare) (defBody s_law_bare) (defScope s_law_bare) .none kV8 dc8 pm8 an8 cd8 ct8), sl8⟩)
    (c8 : PySem.W.codeIn K cd8 "_law_bare" = true)
    (k8 : PySem.W.keepIn K (.ref f8) = true)
    (a9 : PySem.W.nsIn K mainGlobals "_law_alike" = some (some (.ref f9)))
    (l9 : K.lookup f9 = some ⟨oc9, od9, .func (PySem.W.fnOf "_law_alike" "_law_alike" (defArgs s_law_alike) (defBody s_law_alike) (defScope s_law_alike) .none kV9 dc9 pm9 an9 cd9 ct9), sl9⟩)
    (c9 : PySem.W.codeIn K cd9 "_law_alike" = true)
    (k9 : PySem.W.keepIn K (.ref f9) = true)
    (a10 : PySem.W.nsIn K mainGlobals "is_sign" = some (some (.ref f10)))
    (l10 : K.lookup f10 = some ⟨oc10, od10, .func (PySem.W.fnOf "is_sign" "is_sign" (defArgs s_is_sign) (defBody s_is_sign) (defScope s_is_sign) .none kV10 dc10 pm10 an10 cd10 ct10), sl10⟩)
    (c10 : PySem.W.codeIn K cd10 "is_sign" = true)
    (k10 : PySem.W.keepIn K (.ref f10) = true)
    (a11 : PySem.W.nsIn K mainGlobals "is_line" = some (some (.ref f11)))
    (l11 : K.lookup f11 = some ⟨oc11, od11, .func (PySem.W.fnOf "is_line" "is_line" (defArgs s_is_line) (defBody s_is_line) (defScope s_is_line) .none kV11 dc11 pm11 an11 cd11 ct11), sl11⟩)
    (c11 : PySem.W.codeIn K cd11 "is_line" = true)
    (k11 : PySem.W.keepIn K (.ref f11) = true)
    (a12 : PySem.W.nsIn K mainGlobals "need_lines" = some (some (.ref f12)))
    (l12 : K.lookup f12 = some ⟨oc12, od12, .func (PySem.W.fnOf "need_lines" "need_lines" (defArgs s_need_lines) (defBody s_need_lines) (defScope s_need_lines) .none kV12 dc12 pm12 an12 cd12 ct12), sl12⟩)
    (c12 : PySem.W.codeIn K cd12 "need_lines" = true)
    (k12 : PySem.W.keepIn K (.ref f12) = true)
    (a13 : PySem.W.nsIn K mainGlobals "is_number" = some (some (.ref f13)))
    (l13 : K.lookup f13 = some ⟨oc13, od13, .func (PySem.W.fnOf "is_number" "is_number" (defArgs s_is_number) (defBody s_is_number) (defScope s_is_number) .none kV13 dc13 pm13 an13 cd13 ct13), sl13⟩)
    (c13 : PySem.W.codeIn K cd13 "is_number" = true)
    (k13 : PySem.W.keepIn K (.ref f13) = true)
    (a14 : PySem.W.nsIn K mainGlobals "is_stops" = some (some (.ref f14)))
    (l14 : K.lookup f14 = some ⟨oc14, od14, .func (PySem.W.fnOf "is_stops" "is_stops" (defArgs s_is_stops) (defBody s_is_stops) (defScope s_is_stops) .none kV14 dc14 pm14 an14 cd14 ct14), sl14⟩)
    (c14 : PySem.W.codeIn K cd14 "is_stops" = true)
    (k14 : PySem.W.keepIn K (.ref f14) = true)
    (a15 : PySem.W.nsIn K mainGlobals "read_back" = some (some (.ref f15)))
    (l15 : K.lookup f15 = some ⟨oc15, od15, .func (PySem.W.fnOf "read_back" "read_back" (defArgs s_read_back) (defBody s_read_back) (defScope s_read_back) .none kV15 dc15 pm15 an15 cd15 ct15), sl15⟩)
    (c15 : PySem.W.codeIn K cd15 "read_back" = true)
    (k15 : PySem.W.keepIn K (.ref f15) = true)
    (a16 : PySem.W.nsIn K mainGlobals "is_cell" = some (some (.ref f16)))
    (l16 : K.lookup f16 = some ⟨oc16, od16, .func (PySem.W.fnOf "is_cell" "is_cell" (defArgs s_is_cell) (defBody s_is_cell) (defScope s_is_cell) .none kV16 dc16 pm16 an16 cd16 ct16), sl16⟩)
    (c16 : PySem.W.codeIn K cd16 "is_cell" = true)
    (k16 : PySem.W.keepIn K (.ref f16) = true)
    (a17 : PySem.W.nsIn K mainGlobals "is_row" = some (some (.ref f17)))
    (l17 : K.lookup f17 = some ⟨oc17, od17, .func (PySem.W.fnOf "is_row" "is_row" (defArgs s_is_row) (defBody s_is_row) (defScope s_is_row) .none kV17 dc17 pm17 an17 cd17 ct17), sl17⟩)
    (c17 : PySem.W.codeIn K cd17 "is_row" = true)
    (k17 : PySem.W.keepIn K (.ref f17) = true)
    (a18 : PySem.W.nsIn K mainGlobals "need_page" = some (some (.ref f18)))
    (l18 : K.lookup f18 = some ⟨oc18, od18, .func (PySem.W.fnOf "need_page" "need_page" (defArgs s_need_page) (defBody s_need_page) (defScope s_need_page) .none kV18 dc18 pm18 an18 cd18 ct18), sl18⟩)
    (c18 : PySem.W.codeIn K cd18 "need_page" = true)
    (k18 : PySem.W.keepIn K (.ref f18) = true)
    (a19 : PySem.W.nsIn K mainGlobals "need_style" = some (some (.ref f19)))
    (l19 : K.lookup f19 = some ⟨oc19, od19, .func (PySem.W.fnOf "need_style" "need_style" (defArgs s_need_style) (defBody s_need_style) (defScope s_need_style) .none kV19 dc19 pm19 an19 cd19 ct19), sl19⟩)
    (c19 : PySem.W.codeIn K cd19 "need_style" = true)
    (k19 : PySem.W.keepIn K (.ref f19) = true)
    (a20 : PySem.W.findIn K (.ref C1) "width" = some (some (.ref f20)))
    (i20 : PySem.W.isFn K (.ref f20) = true)
    (l20 : K.lookup f20 = some ⟨oc20, od20, .func (PySem.W.fnOf "width" "Stretch.width" (defArgs s_Stretch_width) (defBody s_Stretch_width) (defScope s_Stretch_width) .none kV20 dc20 pm20 an20 cd20 ct20), sl20⟩)
    (c20 : PySem.W.codeIn K cd20 "Stretch.width" = true)
    (k20 : PySem.W.keepIn K (.ref f20) = true)
    (a21 : PySem.W.nsIn K mainGlobals "stops_by" = some (some (.ref f21)))
    (l21 : K.lookup f21 = some ⟨oc21, od21, .func (PySem.W.fnOf "stops_by" "stops_by" (defArgs s_stops_by) (defBody s_stops_by) (defScope s_stops_by) .none kV21 dc21 pm21 an21 cd21 ct21), sl21⟩)
    (c21 : PySem.W.codeIn K cd21 "stops_by" = true)
    (k21 : PySem.W.keepIn K (.ref f21) = true)
    (a22 : PySem.W.findIn K (.ref C1) "__init__" = some (some (.ref f22)))
    (i22 : PySem.W.isFn K (.ref f22) = true)
    (l22 : K.lookup f22 = some ⟨oc22, od22, .func (PySem.W.fnOf "__init__" "Stretch.__init__" (defArgs s_Stretch_init) (defBody s_Stretch_init) (defScope s_Stretch_init) .none kV22 dc22 pm22 an22 cd22 ct22), sl22⟩)
    (c22 : PySem.W.codeIn K cd22 "Stretch.__init__" = true)
    (k22 : PySem.W.keepIn K (.ref f22) = true)
    (a23 : PySem.W.nsIn K mainGlobals "stretches_of" = some (some (.ref f23)))
    (l23 : K.lookup f23 = some ⟨oc23, od23, .func (PySem.W.fnOf "stretches_of" "stretches_of" (defArgs s_stretches_of) (defBody s_stretches_of) (defScope s_stretches_of) .none kV23 dc23 pm23 an23 cd23 ct23), sl23⟩)
    (c23 : PySem.W.codeIn K cd23 "stretches_of" = true)
    (k23 : PySem.W.keepIn K (.ref f23) = true)
    (a24 : PySem.W.nsIn K mainGlobals "all_stretches" = some (some (.ref f24)))
    (l24 : K.lookup f24 = some ⟨oc24, od24, .func (PySem.W.fnOf "all_stretches" "all_stretches" (defArgs s_all_stretches) (defBody s_all_stretches) (defScope s_all_stretches) .none kV24 dc24 pm24 an24 cd24 ct24), sl24⟩)
    (c24 : PySem.W.codeIn K cd24 "all_stretches" = true)
    (k24 : PySem.W.keepIn K (.ref f24) = true)
    (a25 : PySem.W.nsIn K mainGlobals "stops" = some (some (.ref f25)))
    (l25 : K.lookup f25 = some ⟨oc25, od25, .func (PySem.W.fnOf "stops" "stops" (defArgs s_stops) (defBody s_stops) (defScope s_stops) .none kV25 dc25 pm25 an25 cd25 ct25), sl25⟩)
    (c25 : PySem.W.codeIn K cd25 "stops" = true)
    (k25 : PySem.W.keepIn K (.ref f25) = true)
    (a26 : PySem.W.nsIn K mainGlobals "is_figures" = some (some (.ref f26)))
    (l26 : K.lookup f26 = some ⟨oc26, od26, .func (PySem.W.fnOf "is_figures" "is_figures" (defArgs s_is_figures) (defBody s_is_figures) (defScope s_is_figures) .none kV26 dc26 pm26 an26 cd26 ct26), sl26⟩)
    (c26 : PySem.W.codeIn K cd26 "is_figures" = true)
    (k26 : PySem.W.keepIn K (.ref f26) = true)
    (a27 : PySem.W.findIn K (.ref C1) "is_right" = some (some (.ref f27)))
    (i27 : PySem.W.isFn K (.ref f27) = true)
    (l27 : K.lookup f27 = some ⟨oc27, od27, .func (PySem.W.fnOf "is_right" "Stretch.is_right" (defArgs s_Stretch_is_right) (defBody s_Stretch_is_right) (defScope s_Stretch_is_right) .none kV27 dc27 pm27 an27 cd27 ct27), sl27⟩)
    (c27 : PySem.W.codeIn K cd27 "Stretch.is_right" = true)
    (k27 : PySem.W.keepIn K (.ref f27) = true)
    (a28 : PySem.W.nsIn K mainGlobals "begins_by" = some (some (.ref f28)))
    (l28 : K.lookup f28 = some ⟨oc28, od28, .func (PySem.W.fnOf "begins_by" "begins_by" (defArgs s_begins_by) (defBody s_begins_by) (defScope s_begins_by) .none kV28 dc28 pm28 an28 cd28 ct28), sl28⟩)
    (c28 : PySem.W.codeIn K cd28 "begins_by" = true)
    (k28 : PySem.W.keepIn K (.ref f28) = true)
    (a29 : PySem.W.nsIn K mainGlobals "laid" = some (some (.ref f29)))
    (l29 : K.lookup f29 = some ⟨oc29, od29, .func (PySem.W.fnOf "laid" "laid" (defArgs s_laid) (defBody s_laid) (defScope s_laid) .none kV29 dc29 pm29 an29 cd29 ct29), sl29⟩)
    (c29 : PySem.W.codeIn K cd29 "laid" = true)
    (k29 : PySem.W.keepIn K (.ref f29) = true)
    (a30 : PySem.W.nsIn K mainGlobals "line_of" = some (some (.ref f30)))
    (l30 : K.lookup f30 = some ⟨oc30, od30, .func (PySem.W.fnOf "line_of" "line_of" (defArgs s_line_of) (defBody s_line_of) (defScope s_line_of) .none kV30 dc30 pm30 an30 cd30 ct30), sl30⟩)
    (c30 : PySem.W.codeIn K cd30 "line_of" = true)
    (k30 : PySem.W.keepIn K (.ref f30) = true)
    (a31 : PySem.W.nsIn K mainGlobals "shown" = some (some (.ref f31)))
    (l31 : K.lookup f31 = some ⟨oc31, od31, .func (PySem.W.fnOf "shown" "shown" (defArgs s_shown) (defBody s_shown) (defScope s_shown) .none kV31 dc31 pm31 an31 cd31 ct31), sl31⟩)
    (c31 : PySem.W.codeIn K cd31 "shown" = true)
    (k31 : PySem.W.keepIn K (.ref f31) = true)
    (a32 : PySem.W.nsIn K mainGlobals "_law_plain" = some (some (.ref f32)))
    (l32 : K.lookup f32 = some ⟨oc32, od32, .func (PySem.W.fnOf "_law_plain" "_law_plain" (defArgs s_law_plain) (defBody s_law_plain) (defScope s_law_plain) .none kV32 dc32 pm32 an32 cd32 ct32), sl32⟩)
    (c32 : PySem.W.codeIn K cd32 "_law_plain" = true)
    (k32 : PySem.W.keepIn K (.ref f32) = true)
    (a33 : PySem.W.nsIn K mainGlobals "guessed" = some (some (.ref f33)))
    (l33 : K.lookup f33 = some ⟨oc33, od33, .func (PySem.W.fnOf "guessed" "guessed" (defArgs s_guessed) (defBody s_guessed) (defScope s_guessed) .none kV33 dc33 pm33 an33 cd33 ct33), sl33⟩)
    (c33 : PySem.W.codeIn K cd33 "guessed" = true)
    (k33 : PySem.W.keepIn K (.ref f33) = true)
    (a34 : PySem.W.nsIn K mainGlobals "law" = some (some (.ref f34)))
    (l34 : K.lookup f34 = some ⟨oc34, od34, .func (PySem.W.fnOf "law" "law" (defArgs s_law) (defBody s_law) (defScope s_law) .none kV34 dc34 pm34 an34 cd34 ct34), sl34⟩)
    (c34 : PySem.W.codeIn K cd34 "law" = true)
    (k34 : PySem.W.keepIn K (.ref f34) = true)
    : ∃ fd : FuncData, (∀ (s : Shared) (u : Value), BindsTo s fd ⟨[u], []⟩ [("_law_script", u)]) ∧ ∀ base : Heap, K.In base → base.Ns mainGlobals mg → FnOk l.prog w K mg base (L2.CX l.prog w) 9 fa fd ["_law_script"] (spLaw 63) := by
  have e := hfa.symm.trans (PySem.W.mg_of X G a34)
  cases e
  let W : Wd := ⟨K, fun n => match n with | 12 => C1 | _ => 0, fun _ => none, [], fun _ => none⟩
  have T : Txt W mg := ⟨PySem.W.mg_none_of X G zb_len, PySem.W.mg_none_of X G zb_int, PySem.W.mg_none_of X G zb_list, PySem.W.mg_none_of X G zb_str, PySem.W.mg_none_of X G zb_range, PySem.W.mg_none_of X G zb_tuple, PySem.W.mg_none_of X G zb_min, PySem.W.mg_none_of X G zb_max, PySem.W.mg_none_of X G zb_bool, PySem.W.mg_none_of X G zb_isinstance, PySem.W.mg_none_of X G zb_ord, PySem.W.mg_none_of X G zb_enumerate, PySem.W.mg_none_of X G zb_zip, ⟨_, PySem.W.mg_of X G zk_FIRST_SIGN⟩, ⟨_, PySem.W.mg_of X G zk_LAST_SIGN⟩, ⟨_, PySem.W.mg_of X G zk_BARRED⟩, ⟨_, PySem.W.mg_of X G zk_MOST_WIDE⟩, ⟨_, PySem.W.mg_of X G zk_MOST_ROWS⟩, ⟨_, PySem.W.mg_of X G zk_MOST_SIGNS⟩, ⟨_, PySem.W.mg_of X G zk_MOST_CELLS⟩, ⟨_, PySem.W.mg_of X G zk_MOST_GAP⟩, ⟨_, PySem.W.mg_of X G zk_MOST_LEAST⟩, ⟨_, PySem.W.mg_of X G zk_FIGURES⟩, ⟨pg_Stretch, hd_Stretch, po_Stretch, sa_Stretch⟩, nf_Stretch_cells, nf_Stretch_end, nf_Stretch_begin, nf_Stretch_column⟩
  refine ⟨PySem.W.fnOf "law" "law" (defArgs s_law) (defBody s_law) (defScope s_law) .none kV34 dc34 pm34 an34 cd34 ct34, fun s v => .of_eq rfl, fun base _ _ => ?_⟩
  have F1 : Fun W.K "_law_begun" "_law_begun" s_law_begun f1 _ := fun_mk (st := s_law_begun) l1 c1 k1
  have c_law_begun := (ok_law_begun (P := l.prog) (w := w) (base := base) F1 (PySem.W.mg_of X G a1) T )
  have F2 : Fun W.K "_law_take" "_law_take" s_law_take f2 _ := fun_mk (st := s_law_take) l2 c2 k2
  have c_law_take := (ok_law_take (P := l.prog) (w := w) (base := base) F2 (PySem.W.mg_of X G a2) T )
  have F3 : Fun W.K "_law_sign" "_law_sign" s_law_sign f3 _ := fun_mk (st := s_law_sign) l3 c3 k3
  have c_law_sign := (ok_law_sign (P := l.prog) (w := w) (base := base) F3 (PySem.W.mg_of X G a3) T c_law_take)
  have F4 : Fun W.K "_law_cell" "_law_cell" s_law_cell f4 _ := fun_mk (st := s_law_cell) l4 c4 k4
  have c_law_cell := (ok_law_cell (P := l.prog) (w := w) (base := base) F4 (PySem.W.mg_of X G a4) T c_law_take c_law_sign)
  have F5 : Fun W.K "_law_row" "_law_row" s_law_row f5 _ := fun_mk (st := s_law_row) l5 c5 k5
  have c_law_row := (ok_law_row (P := l.prog) (w := w) (base := base) F5 (PySem.W.mg_of X G a5) T c_law_cell)
  have F6 : Fun W.K "_law_page" "_law_page" s_law_page f6 _ := fun_mk (st := s_law_page) l6 c6 k6
  have c_law_page := (ok_law_page (P := l.prog) (w := w) (base := base) F6 (PySem.W.mg_of X G a6) T c_law_take c_law_row)
  have F7 : Fun W.K "_law_style" "_law_style" s_law_style f7 _ := fun_mk (st := s_law_style) l7 c7 k7
  have c_law_style := (ok_law_style (P := l.prog) (w := w) (base := base) F7 (PySem.W.mg_of X G a7) T c_law_take)
  have F8 : Fun W.K "_law_bare" "_law_bare" s_law_bare f8 _ := fun_mk (st := s_law_bare) l8 c8 k8
  have c_law_bare := (ok_law_bare (P := l.prog) (w := w) (base := base) F8 (PySem.W.mg_of X G a8) T )
  have F9 : Fun W.K "_law_alike" "_law_alike" s_law_alike f9 _ := fun_mk (st := s_law_alike) l9 c9 k9
  have c_law_alike := rec_law_alike (P := l.prog) (w := w) (base := base) F9 (PySem.W.mg_of X G a9) T 8
  have F10 : Fun W.K "is_sign" "is_sign" s_is_sign f10 _ := fun_mk (st := s_is_sign) l10 c10 k10
  have c_is_sign := (ok_is_sign (P := l.prog) (w := w) (base := base) F10 (PySem.W.mg_of X G a10) T )
  have F11 : Fun W.K "is_line" "is_line" s_is_line f11 _ := fun_mk (st := s_is_line) l11 c11 k11
  have c_is_line := (ok_is_line (P := l.prog) (w := w) (base := base) F11 (PySem.W.mg_of X G a11) T c_is_sign)
  have F12 : Fun W.K "need_lines" "need_lines" s_need_lines f12 _ := fun_mk (st := s_need_lines) l12 c12 k12
  have c_need_lines := (ok_need_lines (P := l.prog) (w := w) (base := base) F12 (PySem.W.mg_of X G a12) T c_is_line)
  have F13 : Fun W.K "is_number" "is_number" s_is_number f13 _ := fun_mk (st := s_is_number) l13 c13 k13
  have c_is_number := (ok_is_number (P := l.prog) (w := w) (base := base) F13 (PySem.W.mg_of X G a13) T )
  have F14 : Fun W.K "is_stops" "is_stops" s_is_stops f14 _ := fun_mk (st := s_is_stops) l14 c14 k14
  have c_is_stops := (ok_is_stops (P := l.prog) (w := w) (base := base) F14 (PySem.W.mg_of X G a14) T c_is_number)
  have F15 : Fun W.K "read_back" "read_back" s_read_back f15 _ := fun_mk (st := s_read_back) l15 c15 k15
  have c_read_back := (ok_read_back (P := l.prog) (w := w) (base := base) F15 (PySem.W.mg_of X G a15) T c_need_lines c_is_stops)
  have F16 : Fun W.K "is_cell" "is_cell" s_is_cell f16 _ := fun_mk (st := s_is_cell) l16 c16 k16
  have c_is_cell := (ok_is_cell (P := l.prog) (w := w) (base := base) F16 (PySem.W.mg_of X G a16) T c_is_sign)
  have F17 : Fun W.K "is_row" "is_row" s_is_row f17 _ := fun_mk (st := s_is_row) l17 c17 k17
  have c_is_row := (ok_is_row (P := l.prog) (w := w) (base := base) F17 (PySem.W.mg_of X G a17) T c_is_cell)
  have F18 : Fun W.K "need_page" "need_page" s_need_page f18 _ := fun_mk (st := s_need_page) l18 c18 k18
  have c_need_page := (ok_need_page (P := l.prog) (w := w) (base := base) F18 (PySem.W.mg_of X G a18) T c_is_row)
  have F19 : Fun W.K "need_style" "need_style" s_need_style f19 _ := fun_mk (st := s_need_style) l19 c19 k19
  have c_need_style := (ok_need_style (P := l.prog) (w := w) (base := base) F19 (PySem.W.mg_of X G a19) T c_is_number)
  have F20 : Fun W.K "width" "Stretch.width" s_Stretch_width f20 _ := fun_mk (st := s_Stretch_width) l20 c20 k20
  have c_Stretch_width := (ok_Stretch_width (P := l.prog) (w := w) (base := base) F20 ⟨a20, i20, k20⟩ T )
  have F21 : Fun W.K "stops_by" "stops_by" s_stops_by f21 _ := fun_mk (st := s_stops_by) l21 c21 k21
  have c_stops_by := (ok_stops_by (P := l.prog) (w := w) (base := base) F21 (PySem.W.mg_of X G a21) T c_Stretch_width)
  have F22 : Fun W.K "__init__" "Stretch.__init__" s_Stretch_init f22 _ := fun_mk (st := s_Stretch_init) l22 c22 k22
  have n_Stretch := (ok_Stretch_init (P := l.prog) (w := w) (base := base) F22 ⟨mk_Stretch, a22, i22, kc_Stretch⟩ (PySem.W.mg_of X G aC_Stretch) T )
  have F23 : Fun W.K "stretches_of" "stretches_of" s_stretches_of f23 _ := fun_mk (st := s_stretches_of) l23 c23 k23
  have c_stretches_of := (ok_stretches_of (P := l.prog) (w := w) (base := base) F23 (PySem.W.mg_of X G a23) T n_Stretch)
  have F24 : Fun W.K "all_stretches" "all_stretches" s_all_stretches f24 _ := fun_mk (st := s_all_stretches) l24 c24 k24
  have c_all_stretches := (ok_all_stretches (P := l.prog) (w := w) (base := base) F24 (PySem.W.mg_of X G a24) T c_stretches_of)
  have F25 : Fun W.K "stops" "stops" s_stops f25 _ := fun_mk (st := s_stops) l25 c25 k25
  have c_stops := (ok_stops (P := l.prog) (w := w) (base := base) F25 (PySem.W.mg_of X G a25) T c_need_page c_need_style c_stops_by c_all_stretches)
  have F26 : Fun W.K "is_figures" "is_figures" s_is_figures f26 _ := fun_mk (st := s_is_figures) l26 c26 k26
  have c_is_figures := (ok_is_figures (P := l.prog) (w := w) (base := base) F26 (PySem.W.mg_of X G a26) T )
  have F27 : Fun W.K "is_right" "Stretch.is_right" s_Stretch_is_right f27 _ := fun_mk (st := s_Stretch_is_right) l27 c27 k27
  have c_Stretch_is_right := (ok_Stretch_is_right (P := l.prog) (w := w) (base := base) F27 ⟨a27, i27, k27⟩ T c_is_figures)
  have F28 : Fun W.K "begins_by" "begins_by" s_begins_by f28 _ := fun_mk (st := s_begins_by) l28 c28 k28
  have c_begins_by := (ok_begins_by (P := l.prog) (w := w) (base := base) F28 (PySem.W.mg_of X G a28) T c_stops_by c_Stretch_is_right c_Stretch_width)
  have F29 : Fun W.K "laid" "laid" s_laid f29 _ := fun_mk (st := s_laid) l29 c29 k29
  have c_laid := (ok_laid (P := l.prog) (w := w) (base := base) F29 (PySem.W.mg_of X G a29) T c_need_page c_need_style c_begins_by c_all_stretches)
  have F30 : Fun W.K "line_of" "line_of" s_line_of f30 _ := fun_mk (st := s_line_of) l30 c30 k30
  have c_line_of := (ok_line_of (P := l.prog) (w := w) (base := base) F30 (PySem.W.mg_of X G a30) T )
  have F31 : Fun W.K "shown" "shown" s_shown f31 _ := fun_mk (st := s_shown) l31 c31 k31
  have c_shown := (ok_shown (P := l.prog) (w := w) (base := base) F31 (PySem.W.mg_of X G a31) T c_laid c_line_of)
  have F32 : Fun W.K "_law_plain" "_law_plain" s_law_plain f32 _ := fun_mk (st := s_law_plain) l32 c32 k32
  have c_law_plain := (ok_law_plain (P := l.prog) (w := w) (base := base) F32 (PySem.W.mg_of X G a32) T )
  have F33 : Fun W.K "guessed" "guessed" s_guessed f33 _ := fun_mk (st := s_guessed) l33 c33 k33
  have c_guessed := (ok_guessed (P := l.prog) (w := w) (base := base) F33 (PySem.W.mg_of X G a33) T c_need_lines)
  have F34 : Fun W.K "law" "law" s_law fa _ := fun_mk (st := s_law) l34 c34 k34
  exact law_of (ok_law (P := l.prog) (w := w) (base := base) F34 T c_law_begun c_law_page c_law_take c_law_style c_law_bare c_law_alike c_read_back c_stops c_shown c_law_plain c_guessed) HT rfl
theorem walk {l : PySem.W.OpenLaw} {q : Program} {loose : List Str} {XP : (Str → Option Value) → Heap → Prop} {YP : World → Heap → Prop} {d : DefRec} {K : Params → PySem.W.Frag} (hn : l.most = some 63) (hdf : d.params.defaults = []) (hL : ∀ w : World, noList (K w.params))
    (hY : ∀ (w : World) (h : Heap), YP w h → (K w.params).In h)
    (F : ∀ (w : World) (mg : Str → Option Value) (fa : Addr) (h : Heap), (K w.params).In h → h.Ns mainGlobals mg → mg d.name = some (.ref fa) →
      ∃ fd : FuncData, (∀ (s : Shared) (u : Value), BindsTo s fd ⟨[u], []⟩ [("_law_script", u)]) ∧ ∀ base : Heap, (K w.params).In base → base.Ns mainGlobals mg → FnOk l.prog w (K w.params) mg base (L2.CX l.prog w) 9 fa fd ["_law_script"] (spLaw 63)) :
    PySem.W.WalkO q loose XP YP l.row.toRowW d [] (fun f vs => PySem.call f vs) := law_walk (n := 63) (k := 9) (x := "_law_script") hn (by decide) hdf ⟨rfl, by decide, by decide⟩ hL hY F
end W07
open PySem PySem.W PyProof.Rows in
set_option maxRecDepth 100000 in
set_option maxHeartbeats 0 in
theorem PySem.Challenge.cw_tabgrow_k07_whole_what_is_shown_is_read_holds : PySem.Challenge.rw_tabgrow_k07_whole_what_is_shown_is_read.Holds := by
  w_on; o_law; k_head; (case hw => w_witness2)
  k_fill
  refine W07.walk (l := PySem.Challenge.rw_tabgrow_k07_whole_what_is_shown_is_read) rfl rfl ?L (fun w h Y => PySem.W.kIn_of Y) ?F
  case L => exact fun w => Dl.noList_of rfl
  case F =>
    intro w mg fa h KX G hmg
    refine' W07.all_mk Dl.law_k07_true KX G hmg ?zb_len ?zb_int ?zb_list ?zb_str ?zb_range ?zb_tuple ?zb_min ?zb_max ?zb_bool ?zb_isinstance ?zb_ord ?zb_enumerate ?zb_zip ?zk_FIRST_SIGN ?zk_LAST_SIGN ?zk_BARRED ?zk_MOST_WIDE ?zk_MOST_ROWS ?zk_MOST_SIGNS ?zk_MOST_CELLS ?zk_MOST_GAP ?zk_MOST_LEAST ?zk_FIGURES ?aC_Stretch ?pg_Stretch ?hd_Stretch ?po_Stretch ?sa_Stretch ?mk_Stretch ?kc_Stretch ?nf_Stretch_cells ?nf_Stretch_end ?nf_Stretch_begin ?nf_Stretch_column ?a1 ?l1 ?c1 ?k1 ?a2 ?l2 ?c2 ?k2 ?a3 ?l3 ?c3 ?k3 ?a4 ?l4 ?c4 ?k4 ?a5 ?l5 ?c5 ?k5 ?a6 ?l6 ?c6 ?k6 ?a7 ?l7 ?c7 ?k7 ?a8 ?l8 ?c8 ?k8 ?a9 ?l9 ?c9 ?k9 ?a10 ?l10 ?c10 ?k10 ?a11 ?l11 ?c11 ?k11 ?a12 ?l12 ?c12 ?k12 ?a13 ?l13 ?c13 ?k13 ?a14 ?l14 ?c14 ?k14 ?a15 ?l15 ?c15 ?k15 ?a16 ?l16 ?c16 ?k16 ?a17 ?l17 ?c17 ?k17 ?a18 ?l18 ?c18 ?k18 ?a19 ?l19 ?c19 ?k19 ?a20 ?i20 ?l20 ?c20 ?k20 ?a21 ?l21 ?c21 ?k21 ?a22 ?i22 ?l22 ?c22 ?k22 ?a23 ?l23 ?c23 ?k23 ?a24 ?l24 ?c24 ?k24 ?a25 ?l25 ?c25 ?k25 ?a26 ?l26 ?c26 ?k26 ?a27 ?i27 ?l27 ?c27 ?k27 ?a28 ?l28 ?c28 ?k28 ?a29 ?l29 ?c29 ?k29 ?a30 ?l30 ?c30 ?k30 ?a31 ?l31 ?c31 ?k31 ?a32 ?l32 ?c32 ?k32 ?a33 ?l33 ?c33 ?k33 ?a34 ?l34 ?c34 ?k34
    (case zb_len => k_is)
    (case zb_int => k_is)
    (case zb_list => k_is)
    (case zb_str => k_is)
    (case zb_range => k_is)
    (case zb_tuple => k_is)
    (case zb_min => k_is)
    (case zb_max => k_is)
    (case zb_bool => k_is)
    (case zb_isinstance => k_is)
    (case zb_ord => k_is)
    (case zb_enumerate => k_is)
    (case zb_zip => k_is)
    (case zk_FIRST_SIGN => k_is)
    (case zk_LAST_SIGN => k_is)
    (case zk_BARRED => k_is)
    (case zk_MOST_WIDE => k_is)
    (case zk_MOST_ROWS => k_is)
    (case zk_MOST_SIGNS => k_is)
    (case zk_MOST_CELLS => k_is)
    (case zk_MOST_GAP => k_is)
    (case zk_MOST_LEAST => k_is)
    (case zk_FIGURES => k_is)
    (case aC_Stretch => k_is)
    (case pg_Stretch => k_is)
    (case hd_Stretch => k_is)
    (case po_Stretch => k_is)
    (case sa_Stretch => k_is)
    (case mk_Stretch => k_is)
    (case kc_Stretch => k_is)
    (case nf_Stretch_cells => k_is)
    (case nf_Stretch_end => k_is)
    (case nf_Stretch_begin => k_is)
    (case nf_Stretch_column => k_is)
    (case a1 => k_is)
    (case l1 => k_is)
    (case c1 => k_is)
    (case k1 => k_is)
    (case a2 => k_is)
    (case l2 => k_is)
    (case c2 => k_is)
    (case k2 => k_is)
    (case a3 => k_is)
    (case l3 => k_is)
    (case c3 => k_is)
    (case k3 => k_is)
    (case a4 => k_is)
    (case l4 => k_is)
    (case c4 => k_is)
    (case k4 => k_is)
    (case a5 => k_is)
    (case l5 => k_is)
    (case c5 => k_is)
    (case k5 => k_is)
    (case a6 => k_is)
    (case l6 => k_is)
    (case c6 => k_is)
    (case k6 => k_is)
    (case a7 => k_is)
    (case l7 => k_is)
    (case c7 => k_is)
    (case k7 => k_is)
    (case a8 => k_is)
    (case l8 => k_is)
    (case c8 => k_is)
    (case k8 => k_is)
    (case a9 => k_is)
    (case l9 => k_is)
    (case c9 => k_is)
    (case k9 => k_is)
    (case a10 => k_is)
    (case l10 => k_is)
    (case c10 => k_is)
    (case k10 => k_is)
    (case a11 => k_is)
    (case l11 => k_is)
    (case c11 => k_is)
    (case k11 => k_is)
    (case a12 => k_is)
    (case l12 => k_is)
    (case c12 => k_is)
    (case k12 => k_is)
    (case a13 => k_is)
    (case l13 => k_is)
    (case c13 => k_is)
    (case k13 => k_is)
    (case a14 => k_is)
    (case l14 => k_is)
    (case c14 => k_is)
    (case k14 => k_is)
    (case a15 => k_is)
    (case l15 => k_is)
    (case c15 => k_is)
    (case k15 => k_is)
    (case a16 => k_is)
    (case l16 => k_is)
    (case c16 => k_is)
    (case k16 => k_is)
    (case a17 => k_is)
    (case l17 => k_is)
    (case c17 => k_is)
    (case k17 => k_is)
    (case a18 => k_is)
    (case l18 => k_is)
    (case c18 => k_is)
    (case k18 => k_is)
    (case a19 => k_is)
    (case l19 => k_is)
    (case c19 => k_is)
    (case k19 => k_is)
    (case a20 => k_is)
    (case i20 => k_is)
    (case l20 => k_is)
    (case c20 => k_is)
    (case k20 => k_is)
    (case a21 => k_is)
    (case l21 => k_is)
    (case c21 => k_is)
    (case k21 => k_is)
    (case a22 => k_is)
    (case i22 => k_is)
    (case l22 => k_is)
    (case c22 => k_is)
    (case k22 => k_is)
    (case a23 => k_is)
    (case l23 => k_is)
    (case c23 => k_is)
    (case k23 => k_is)
    (case a24 => k_is)
    (case l24 => k_is)
    (case c24 => k_is)
    (case k24 => k_is)
    (case a25 => k_is)
    (case l25 => k_is)
    (case c25 => k_is)
    (case k25 => k_is)
    (case a26 => k_is)
    (case l26 => k_is)
    (case c26 => k_is)
    (case k26 => k_is)
    (case a27 => k_is)
    (case i27 => k_is)
    (case l27 => k_is)
    (case c27 => k_is)
    (case k27 => k_is)
    (case a28 => k_is)
    (case l28 => k_is)
    (case c28 => k_is)
    (case k28 => k_is)
    (case a29 => k_is)
    (case l29 => k_is)
    (case c29 => k_is)
    (case k29 => k_is)
    (case a30 => k_is)
    (case l30 => k_is)
    (case c30 => k_is)
    (case k30 => k_is)
    (case a31 => k_is)
    (case l31 => k_is)
    (case c31 => k_is)
    (case k31 => k_is)
    (case a32 => k_is)
    (case l32 => k_is)
    (case c32 => k_is)
    (case k32 => k_is)
    (case a33 => k_is)
    (case l33 => k_is)
    (case c33 => k_is)
    (case k33 => k_is)
    (case a34 => k_is)
    (case l34 => k_is)
    (case c34 => k_is)
    (case k34 => k_is)
#print axioms PySem.Challenge.cw_tabgrow_k07_whole_what_is_shown_is_read_holds
