import PyProof.Rows.All
import Wide.All
import OpenK.AllK
import Wide.FinOn
import HandS.ForMost
import HandS.Style
import HandS.Deep
import HandS.RaiseMore
import HandS.Defaults
import HandS.HeadEnd
import HandS.Lambda
import HandS.HeadHook2
import HandS.Head0
import HandS.Head1
import HandS.Head2
import KE.SortData
import KE.LtData
import HandS.TupAny
import HandS.Conv
import KE.DataMinMax
import KE.SortKeyHeap
import HandS.More
import HandS.DictComp
import HandS.Small
import KE.KDictItemsList
import HandS.ListItems
import KE.DataCmp
import KE.KDictSum
import KE.KDictCopyH
import KE.DataIsa
import HandS.TupSets
import HandS.Replace
import HandS.HeadHook4
import HandS.EndTab
import PySem.Challenge.RW_intentstore_k51_witnesses
set_option Elab.async false
set_option linter.all false
set_option maxRecDepth 100000
set_option maxHeartbeats 4000000
namespace Z
open PySem PySem.Spec PyProof.Rows L2

/-! # plain data, the store, how they lie in the abstract heap -/
inductive D where
  | non | bl (b : Bool) | int (i : Int) | str (x : Str)
  | lst (xs : List D) | tup (xs : List D)
  | dK (kvs : List (Key × D)) | dT (kvs : List (List Key × D))
  | ref (n : Nat)
  /-- a tuple that may be one of the text's top: no dict's key -/
  | ctup (xs : List D)
instance : Inhabited D := ⟨.non⟩

mutual
inductive Rep (K : PySem.W.Frag) (F : Hp) (ι : List Addr) : V → D → Prop
  | non : Rep K F ι .non .non
  | bl (b : Bool) : Rep K F ι (.bl b) (.bl b)
  | int (i : Int) : Rep K F ι (.int i) (.int i)
  | str (x : Str) : Rep K F ι (.str x) (.str x)
  | lst {a vs ds} : F a = some (.lst vs) → Reps K F ι vs ds → Rep K F ι (.ref a) (.lst ds)
  | tup {a vs ds} : F a = some (.tup vs) → Reps K F ι vs ds → Rep K F ι (.ref a) (.tup ds)
  | dK {a kvs es} : F a = some (.dK kvs) → kvs.map (·.1) = es.map (·.1) → Reps K F ι (kvs.map (·.2)) (es.map (·.2)) → Rep K F ι (.ref a) (.dK es)
  | dT {a kvs es} : F a = some (.dT kvs) → kvs.map (·.1) = es.map (·.1) → Reps K F ι (kvs.map (·.2)) (es.map (·.2)) → Rep K F ι (.ref a) (.dT es)
  | ref {n a} : ι[n]? = some a → Rep K F ι (.ref a) (.ref n)
  | ctup {a vs ds} : Rd F a (.tup vs) → Reps K F ι vs ds → Rep K F ι (.ref a) (.ctup ds)
inductive Reps (K : PySem.W.Frag) (F : Hp) (ι : List Addr) : List V → List D → Prop
  | nil : Reps K F ι [] []
  | cons {v d vs ds} : Rep K F ι v d → Reps K F ι vs ds → Reps K F ι (v :: vs) (d :: ds)
end

def LeH (F F' : Hp) : Prop := ∀ a o, F a = some o → F' a = some o
theorem LeH.rd {H H' : Hp} (h : LeH H H') {a : Addr} {o : HO} (r : Rd H a o) : Rd H' a o := by
  rcases r with r | ⟨ob, r⟩
  · exact .inl (h _ _ r)
  · exact .inr ⟨ob, h _ _ r⟩
theorem LeH.refl (F : Hp) : LeH F F := fun _ _ h => h
theorem LeH.trans {F G H : Hp} (a : LeH F G) (b : LeH G H) : LeH F H := fun x o h => b x o (a x o h)
theorem LeH.upd {F : Hp} {a : Addr} {o : HO} (h : F a = none) : LeH F (upd F a o) := fun b u e => by
  rw [upd_ne (ne_of_none e h)]; exact e
def LeA (l m : List Addr) : Prop := ∀ (n : Nat) (a : Addr), l[n]? = some a → m[n]? = some a
theorem LeA.refl (l : List Addr) : LeA l l := fun _ _ h => h
theorem LeA.trans {l m n : List Addr} (a : LeA l m) (b : LeA m n) : LeA l n := fun x o h => b x o (a x o h)
theorem LeA.app (l m : List Addr) : LeA l (l ++ m) := fun n a h => by
  rw [List.getElem?_append_left (List.getElem?_eq_some_iff.mp h).1]; exact h

section
variable {K : PySem.W.Frag} {F F' : Hp} {ι ι' : List Addr}
mutual
theorem Rep.le (h : LeH F F') (g : LeA ι ι') : ∀ {v : V} {d : D}, Rep K F ι v d → Rep K F' ι' v d
  | _, _, .non => .non
  | _, _, .bl b => .bl b
  | _, _, .int i => .int i
  | _, _, .str x => .str x
  | _, _, .lst a r => .lst (h _ _ a) (Reps.le h g r)
  | _, _, .tup a r => .tup (h _ _ a) (Reps.le h g r)
  | _, _, .dK a e r => .dK (h _ _ a) e (Reps.le h g r)
  | _, _, .dT a e r => .dT (h _ _ a) e (Reps.le h g r)
  | _, _, .ref e => .ref (g _ _ e)
  | _, _, .ctup a r => .ctup (h.rd a) (Reps.le h g r)
theorem Reps.le (h : LeH F F') (g : LeA ι ι') : ∀ {vs : List V} {ds : List D}, Reps K F ι vs ds → Reps K F' ι' vs ds
  | _, _, .nil => .nil
  | _, _, .cons a r => .cons (Rep.le h g a) (Reps.le h g r)
end
theorem Reps.length : ∀ {vs : List V} {ds : List D}, Reps K F ι vs ds → vs.length = ds.length
  | _, _, .nil => rfl
  | _, _, .cons _ r => by rw [List.length_cons, List.length_cons, r.length]
theorem Reps.app : ∀ {vs ws : List V} {ds es : List D}, Reps K F ι vs ds → Reps K F ι ws es → Reps K F ι (vs ++ ws) (ds ++ es)
  | _, _, _, _, .nil, b => b
  | _, _, _, _, .cons a r, b => .cons a (r.app b)
theorem Reps.at : ∀ {vs : List V} {ds : List D}, Reps K F ι vs ds → ∀ {i : Nat} {d : D}, ds[i]? = some d → ∃ v, vs[i]? = some v ∧ Rep K F ι v d
  | _, _, .nil, _, _, h => by simp at h
  | _, _, .cons a r, 0, _, h => by simp at h; subst h; exact ⟨_, rfl, a⟩
  | _, _, .cons a r, i + 1, _, h => by
    obtain ⟨v, h1, h2⟩ := r.at (i := i) (by simpa using h)
    exact ⟨v, by simpa using h1, h2⟩
theorem Reps.of_at : ∀ {vs : List V} {ds : List D}, Reps K F ι vs ds → ∀ {i : Nat} {v : V}, vs[i]? = some v → ∃ d, ds[i]? = some d ∧ Rep K F ι v d
  | _, _, .nil, _, _, h => by simp at h
  | _, _, .cons a r, 0, _, h => by simp at h; subst h; exact ⟨_, rfl, a⟩
  | _, _, .cons a r, i + 1, _, h => by
    obtain ⟨v, h1, h2⟩ := r.of_at (i := i) (by simpa using h)
    exact ⟨v, by simpa using h1, h2⟩
theorem Reps.take : ∀ {vs : List V} {ds : List D}, Reps K F ι vs ds → ∀ n : Nat, Reps K F ι (vs.take n) (ds.take n)
  | _, _, _, 0 => by simp; exact .nil
  | _, _, .nil, _ + 1 => by simp; exact .nil
  | _, _, .cons a r, n + 1 => .cons a (r.take n)
theorem Reps.drop : ∀ {vs : List V} {ds : List D}, Reps K F ι vs ds → ∀ n : Nat, Reps K F ι (vs.drop n) (ds.drop n)
  | _, _, r, 0 => r
  | _, _, .nil, _ + 1 => by simp; exact .nil
  | _, _, .cons a r, n + 1 => r.drop n
theorem Reps.set {v : V} {d : D} (q : Rep K F ι v d) : ∀ {vs : List V} {ds : List D}, Reps K F ι vs ds → ∀ n : Nat, Reps K F ι (vs.set n v) (ds.set n d)
  | _, _, .nil, _ => .nil
  | _, _, .cons a r, 0 => .cons q r
  | _, _, .cons a r, n + 1 => .cons a (r.set q n)
theorem Reps.rev {vs : List V} {ds : List D} (r : Reps K F ι vs ds) : Reps K F ι vs.reverse ds.reverse := by
  induction r using Reps.rec (motive_1 := fun _ _ _ => True) with
  | nil => exact .nil
  | cons a r _ ih => simp only [List.reverse_cons]; exact ih.app (.cons a .nil)
  | _ => trivial
theorem Reps.erase : ∀ {vs : List V} {ds : List D}, Reps K F ι vs ds → ∀ n : Nat, Reps K F ι (vs.eraseIdx n) (ds.eraseIdx n)
  | _, _, .nil, _ => by simp; exact .nil
  | _, _, .cons a r, 0 => r
  | _, _, .cons a r, n + 1 => .cons a (r.erase n)
theorem Reps.one {v : V} {d : D} (q : Rep K F ι v d) : Reps K F ι [v] [d] := .cons q .nil
end

/-! ## the store -/
/-- what is tracked by name: a list or dict that may change, one that is walked just now, an instance -/
inductive Cell where
  | con (d : D) | lck (d : D) | ins (C : Str) (fs : List (Str × D))
abbrev Store := List Cell

/-- a container at an address of G, its things by F -/
def CRep (K : PySem.W.Frag) (F : Hp) (ι : List Addr) (G : Hp) (a : Addr) : D → Prop
  | .lst ds => ∃ vs, G a = some (.lst vs) ∧ Reps K F ι vs ds
  | .dK es => ∃ kvs, G a = some (.dK kvs) ∧ kvs.map (·.1) = es.map (·.1) ∧ Reps K F ι (kvs.map (·.2)) (es.map (·.2))
  | .dT es => ∃ kvs, G a = some (.dT kvs) ∧ kvs.map (·.1) = es.map (·.1) ∧ Reps K F ι (kvs.map (·.2)) (es.map (·.2))
  | _ => False
/-- the same, locked -/
def LRep (K : PySem.W.Frag) (F : Hp) (ι : List Addr) (G : Hp) (a : Addr) : D → Prop
  | .lst ds => ∃ o vs, G a = some (.frz o (.lst vs)) ∧ Reps K F ι vs ds
  | .dK es => ∃ o kvs, G a = some (.frz o (.dK kvs)) ∧ kvs.map (·.1) = es.map (·.1) ∧ Reps K F ι (kvs.map (·.2)) (es.map (·.2))
  | .dT es => ∃ o kvs, G a = some (.frz o (.dT kvs)) ∧ kvs.map (·.1) = es.map (·.1) ∧ Reps K F ι (kvs.map (·.2)) (es.map (·.2))
  | _ => False
/-- the program's facts -/
structure Pg where
  P : Program
  w : World
  K : PySem.W.Frag
  mg : Str → Option Value
  base : Heap
  cls : Str → Option Addr
  con : Str → Option D
  T : List (Addr × Str)
def IRep (p : Pg) (F : Hp) (ι : List Addr) (G : Hp) (a : Addr) (C : Str) (fs : List (Str × D)) : Prop :=
  ∃ Ca dx fv, p.cls C = some Ca ∧ G a = some (.ins Ca dx fv) ∧ fv.map (·.1) = fs.map (·.1) ∧ Reps p.K F ι (fv.map (·.2)) (fs.map (·.2))
def CellRep (p : Pg) (F : Hp) (ι : List Addr) (G : Hp) (a : Addr) : Cell → Prop
  | .con d => CRep p.K F ι G a d
  | .lck d => LRep p.K F ι G a d
  | .ins C fs => IRep p F ι G a C fs

theorem CRep.le {K : PySem.W.Frag} {F F' G G' : Hp} {ι ι' : List Addr} {a : Addr} {d : D} (h : LeH F F') (g : LeA ι ι') (e : G' a = G a) (r : CRep K F ι G a d) : CRep K F' ι' G' a d := by
  cases d <;> simp only [CRep] at r ⊢
  · obtain ⟨vs, a, b⟩ := r; exact ⟨vs, e.trans a, b.le h g⟩
  · obtain ⟨vs, a, c, b⟩ := r; exact ⟨vs, e.trans a, c, b.le h g⟩
  · obtain ⟨vs, a, c, b⟩ := r; exact ⟨vs, e.trans a, c, b.le h g⟩
theorem LRep.le {K : PySem.W.Frag} {F F' G G' : Hp} {ι ι' : List Addr} {a : Addr} {d : D} (h : LeH F F') (g : LeA ι ι') (e : G' a = G a) (r : LRep K F ι G a d) : LRep K F' ι' G' a d := by
  cases d <;> simp only [LRep] at r ⊢
  · obtain ⟨o, vs, a, b⟩ := r; exact ⟨o, vs, e.trans a, b.le h g⟩
  · obtain ⟨o, vs, a, c, b⟩ := r; exact ⟨o, vs, e.trans a, c, b.le h g⟩
  · obtain ⟨o, vs, a, c, b⟩ := r; exact ⟨o, vs, e.trans a, c, b.le h g⟩
theorem CellRep.le {p : Pg} {F F' G G' : Hp} {ι ι' : List Addr} {a : Addr} {c : Cell} (h : LeH F F') (g : LeA ι ι') (e : G' a = G a) (r : CellRep p F ι G a c) : CellRep p F' ι' G' a c := by
  cases c with
  | con d => exact CRep.le h g e r
  | lck d => exact LRep.le h g e r
  | ins C fs =>
    obtain ⟨Ca, dx, fv, h1, h2, h3, h4⟩ := r
    exact ⟨Ca, dx, fv, h1, e.trans h2, h3, h4.le h g⟩

/-! ## names' values -/
inductive Slot where
  | un | fz (d : D) | own (d : D)
abbrev Env' := List Slot

/-- a dict may be locked meanwhile -/
def SubH (H : Hp) (a : Addr) (o : HO) : Prop := H a = some o ∨ (((∃ kvs, o = .dK kvs) ∨ (∃ kvs, o = .dT kvs)) ∧ ∃ ob, H a = some (.frz ob o))
/-- a tuple as it stands -/
def TupAt (H : Hp) (a : Addr) (vs : List V) : Prop := H a = some (.tup vs)
theorem TupAt.sq {K : PySem.W.Frag} {H : Hp} {a : Addr} {vs : List V} (h : TupAt H a vs) : SqT K H a vs := .inl (.inl h)
/-- never changed while it stands there -/
def Loose : HO → Prop
  | .frz _ _ => True
  | .tup _ => True
  | .ext _ => True
  | _ => False
def NoT : HO → Prop
  | .tup _ => False
  | _ => True
/-- entries that only the making of a lambda changes -/
def TabE : HO → Prop
  | .tbl _ => True
  | .ext _ => True
  | _ => False
theorem tabs_keep {T : List (Addr × Str)} {H H' : Hp} (t : LamX.Tabs T H) (e : ∀ b o, TabE o → H b = some o → H' b = some o) : LamX.Tabs T H' := fun q hq => by
  obtain ⟨ps, h1, h2, h3⟩ := t q hq
  refine ⟨ps, e _ _ trivial h1, h2, fun pos cv h => ?_⟩
  obtain ⟨c, h4, h5⟩ := h3 pos cv h
  exact ⟨c, h4, e _ _ trivial h5⟩
/-- the tables of the lambdas' makers; nothing else is a table -/
structure TabW (T : List (Addr × Str)) (Pr F H : Hp) : Prop where
  t : LamX.Tabs T H
  f : ∀ a ps, F a ≠ some (.tbl ps)
  p : ∀ a ps, Pr a ≠ some (.tbl ps)
/-- what stands, whatever the names hold: the frozen part, the store, what others keep -/
structure Wd (p : Pg) (Pr : Hp) (S : Store) (F : Hp) (ι : List Addr) (H : Hp) : Prop where
  sub : ∀ a o, F a = some o → SubH H a o
  con : ∀ x d, p.con x = some d → ∃ u v, p.mg x = some u ∧ RelV v u ∧ Rep p.K F ι v d
  len : ι.length = S.length
  nd : ι.Nodup
  cell : ∀ (n : Nat) (c : Cell) (a : Addr), S[n]? = some c → ι[n]? = some a → F a = none ∧ CellRep p F ι H a c
  prot : ∀ a o, Pr a = some o → H a = some o ∧ (F a = none ∨ Loose o) ∧ ∀ (n : Nat) (c : Cell), ι[n]? = some a → S[n]? = some c → ∃ d, c = .lck d
  tab : TabW p.T Pr F H
/-- the names too: their places in α for own containers -/
structure Rel (p : Pg) (Pr : Hp) (ρ : Env') (S : Store) (F : Hp) (ι : List Addr) (α : Nat → Addr) (σ : L2.St) (H : Hp) : Prop where
  wd : Wd p Pr S F ι H
  fz : ∀ (i : Nat) (d : D), ρ[i]? = some (.fz d) → ∃ v, σ[i]? = some (some v) ∧ Rep p.K F ι v d
  own : ∀ (i : Nat) (d : D), ρ[i]? = some (.own d) → σ[i]? = some (some (.ref (α i))) ∧ F (α i) = none ∧ α i ∉ ι ∧ CRep p.K F ι H (α i) d ∧ Pr (α i) = none
  lng : ρ.length ≤ σ.length
  inj : ∀ (i j : Nat) (d e : D), ρ[i]? = some (.own d) → ρ[j]? = some (.own e) → α i = α j → i = j

theorem CRep.there {K : PySem.W.Frag} {F G : Hp} {ι : List Addr} {a : Addr} {d : D} (r : CRep K F ι G a d) : ∃ o, G a = some o ∧ Mut (some o) ∧ NoT o ∧ ¬ Loose o := by
  cases d <;> simp only [CRep] at r
  · obtain ⟨vs, a, b⟩ := r; exact ⟨_, a, trivial, trivial, id⟩
  · obtain ⟨vs, a, c, b⟩ := r; exact ⟨_, a, trivial, trivial, id⟩
  · obtain ⟨vs, a, c, b⟩ := r; exact ⟨_, a, trivial, trivial, id⟩
theorem LRep.there {K : PySem.W.Frag} {F G : Hp} {ι : List Addr} {a : Addr} {d : D} (r : LRep K F ι G a d) : ∃ ob o, G a = some (.frz ob o) := by
  cases d <;> simp only [LRep] at r
  · obtain ⟨o, vs, a, b⟩ := r; exact ⟨_, _, a⟩
  · obtain ⟨o, vs, a, c, b⟩ := r; exact ⟨_, _, a⟩
  · obtain ⟨o, vs, a, c, b⟩ := r; exact ⟨_, _, a⟩
theorem CellRep.there {p : Pg} {F G : Hp} {ι : List Addr} {a : Addr} {c : Cell} (r : CellRep p F ι G a c) : ∃ o, G a = some o ∧ NoT o := by
  cases c with
  | con d => obtain ⟨o, h, _, t, _⟩ := CRep.there r; exact ⟨o, h, t⟩
  | lck d => obtain ⟨ob, o, h⟩ := LRep.there r; exact ⟨_, h, trivial⟩
  | ins C fs => obtain ⟨Ca, dx, fv, _, h, _⟩ := r; exact ⟨_, h, trivial⟩
theorem tabs_new {T : List (Addr × Str)} {H : Hp} {a : Addr} {o : HO} (t : LamX.Tabs T H) (h : H a = none) : LamX.Tabs T (upd H a o) := tabs_keep t fun b u _ e => by
  rw [upd_ne (fun z => by rw [z, h] at e; cases e)]; exact e
theorem tabs_upd {T : List (Addr × Str)} {H : Hp} {a : Addr} {o u : HO} (t : LamX.Tabs T H) (h : H a = some u) (n : ¬ TabE u) : LamX.Tabs T (upd H a o) := tabs_keep t fun b w hw e => by
  rw [upd_ne (fun z => by rw [z, h] at e; cases e; exact n hw)]; exact e
theorem CRep.nte {K : PySem.W.Frag} {F G : Hp} {ι : List Addr} {a : Addr} {d : D} (r : CRep K F ι G a d) : ∃ o, G a = some o ∧ ¬ TabE o := by
  cases d <;> simp only [CRep] at r
  · obtain ⟨vs, a, b⟩ := r; exact ⟨_, a, id⟩
  · obtain ⟨vs, a, c, b⟩ := r; exact ⟨_, a, id⟩
  · obtain ⟨vs, a, c, b⟩ := r; exact ⟨_, a, id⟩
theorem CellRep.nte {p : Pg} {F G : Hp} {ι : List Addr} {a : Addr} {c : Cell} (r : CellRep p F ι G a c) : ∃ o, G a = some o ∧ ¬ TabE o := by
  cases c with
  | con d => exact CRep.nte r
  | lck d => obtain ⟨ob, o, h⟩ := LRep.there r; exact ⟨_, h, id⟩
  | ins C fs => obtain ⟨Ca, dx, fv, _, h, _⟩ := r; exact ⟨_, h, id⟩
end Z

set_option Elab.async false
set_option linter.all false
set_option maxRecDepth 100000
set_option maxHeartbeats 4000000
namespace Z
open PySem PySem.Spec PyProof.Rows L2

/-! # operations on plain data -/
mutual
def D.py : D → PyData
  | .non => .none | .bl b => .bool b | .int i => .int i | .str x => .str x
  | .lst xs => .list (pys xs) | .tup xs => .tuple (pys xs)
  | .dK _ => .none | .dT _ => .none | .ref _ => .none
  | .ctup xs => .tuple (pys xs)
def pys : List D → List PyData
  | [] => []
  | x :: xs => x.py :: pys xs
end
mutual
/-- no dicts, nothing of the store -/
def D.plain : D → Bool
  | .non => true | .bl _ => true | .int _ => true | .str x => PyData.strOk x
  | .lst xs => plains xs | .tup xs => plains xs
  | .dK _ => false | .dT _ => false | .ref _ => false
  | .ctup xs => plains xs
def plains : List D → Bool
  | [] => true
  | x :: xs => x.plain && plains xs
end
mutual
/-- no such tuple of the top anywhere -/
def D.noc : D → Bool
  | .non => true | .bl _ => true | .int _ => true | .str _ => true
  | .lst xs => nocs xs | .tup xs => nocs xs
  | .dK _ => true | .dT _ => true | .ref _ => true
  | .ctup _ => false
def nocs : List D → Bool
  | [] => true
  | x :: xs => x.noc && nocs xs
end
def D.dep (d : D) : Nat := d.py.depth
def keyP : Key → PyData
  | .inl i => .int i | .inr x => .str x
mutual
/-- what repr sees, dicts too -/
def D.pyr : D → PyData
  | .non => .none | .bl b => .bool b | .int i => .int i | .str x => .str x
  | .lst xs => .list (pyrs xs) | .tup xs => .tuple (pyrs xs)
  | .dK es => .dict (pyrk es) | .dT _ => .none | .ref _ => .none
  | .ctup xs => .tuple (pyrs xs)
def pyrs : List D → List PyData
  | [] => []
  | x :: xs => x.pyr :: pyrs xs
def pyrp : Key × D → PyData × PyData
  | (k, d) => (keyP k, d.pyr)
def pyrk : List (Key × D) → List (PyData × PyData)
  | [] => []
  | x :: xs => pyrp x :: pyrk xs
end
mutual
/-- nothing of the store, no dict whose keys are tuples -/
def D.shw : D → Bool
  | .non => true | .bl _ => true | .int _ => true | .str _ => true
  | .lst xs => shws xs | .tup xs => shws xs
  | .dK es => shwk es | .dT _ => false | .ref _ => false
  | .ctup xs => shws xs
def shws : List D → Bool
  | [] => true
  | x :: xs => x.shw && shws xs
def shwp : Key × D → Bool
  | (_, d) => d.shw
def shwk : List (Key × D) → Bool
  | [] => true
  | x :: xs => shwp x && shwk xs
end
def isSeqD : D → Bool
  | .lst _ => true | .tup _ => true | .ctup _ => true
  | _ => false
def okShw (d : D) : Bool := isSeqD d && (d.shw && (decide (d.pyr.depth ≤ 60) && (d.pyr.showable && decide (d.pyr.shown.length ≤ sizeLine))))
def D.fit (d : D) : Bool := d.plain && decide (d.dep ≤ 60)
def fits (ds : List D) : Bool := (D.lst ds).fit
def eqD (a b : D) : Bool := PyData.eqv a.py b.py
def ltD (a b : D) : Bool := PySem.W.dataLt a.py b.py
def likeD (a b : D) : Bool := PySem.W.alike a.py b.py
def D.isNon : D → Bool
  | .non => true
  | _ => false
def okEq (a b : D) : Bool := a.fit && b.fit
def okLt (a b : D) : Bool := a.fit && (b.fit && (likeD a b && !a.isNon))
/-- all alike, none of them None -/
def okAll (ds : List D) : Bool := fits ds && ((ds.all fun a => ds.all fun b => likeD a b) && ds.all fun a => !a.isNon)
def maxD (x : D) (xs : List D) : D := xs.foldl (fun a y => if ltD a y then y else a) x
def minD (x : D) (xs : List D) : D := xs.foldl (fun a y => if ltD y a then y else a) x

/-- a dict's key -/
def keyK : D → Option Key
  | .int i => some (.inl i) | .str x => some (.inr x)
  | _ => none
def keyKs : List D → Option (List Key)
  | [] => some []
  | x :: xs => match keyK x, keyKs xs with
    | some k, some ks => some (k :: ks)
    | _, _ => none
def keyT : D → Option (List Key)
  | .tup xs => keyKs xs
  | _ => none
def dK1 : Key → D
  | .inl i => .int i | .inr x => .str x
def dT1 (ks : List Key) : D := .tup (ks.map dK1)
section
variable {κ : Type} [DecidableEq κ] {β : Type}
def look (es : List (κ × β)) (k : κ) : Option β := (es.find? fun e => decide (e.1 = k)).map (·.2)
def dput (es : List (κ × β)) (k : κ) (v : β) : List (κ × β) := if (look es k).isSome then es.map (fun e => if e.1 = k then (e.1, v) else e) else es ++ [(k, v)]
def ddrop (es : List (κ × β)) (k : κ) : List (κ × β) := es.filter fun e => decide (e.1 ≠ k)
end
/-- what a dict has under a key: not a dict or not a key of its kind; nothing; something -/
def dget : D → D → Option (Option D)
  | .dK es, k => (keyK k).map (look es)
  | .dT es, k => (keyT k).map (look es)
  | _, _ => none
def dset : D → D → D → Option D
  | .dK es, k, v => match keyK k with
    | some k => if es.length < sizeLine then some (.dK (dput es k v)) else none
    | none => none
  | .dT es, k, v => match keyT k with
    | some k => if es.length < sizeLine then some (.dT (dput es k v)) else none
    | none => none
  | _, _, _ => none
def ddel : D → D → Option D
  | .dK es, k => (keyK k).map fun k => .dK (ddrop es k)
  | _, _ => none
def keysOf : D → Option (List D)
  | .dK es => some (es.map fun e => dK1 e.1)
  | .dT es => some (es.map fun e => dT1 e.1)
  | _ => none
def itemsOf : D → Option (List D)
  | .dK es => some (es.map fun e => .tup [dK1 e.1, e.2])
  | _ => none

def signs (x : Str) : List D := x.cps.toList.map fun c => .str ⟨#[c]⟩
/-- what a for walks -/
def itemsIn : D → Option (List D)
  | .lst xs => some xs | .tup xs => some xs
  | .str x => if x.length ≤ sizeLine then some (signs x) else none
  | .dK es => keysOf (.dK es) | .dT es => keysOf (.dT es)
  | .ctup xs => some xs
  | _ => none
def lenD : D → Option D
  | .lst xs => some (.int xs.length) | .tup xs => some (.int xs.length)
  | .str x => if x.length ≤ sizeLine then some (.int x.length) else none
  | .dK es => some (.int es.length)
  | .ctup xs => some (.int xs.length)
  | _ => none

instance {i j : Int} : Decidable (CMul i j) := by unfold CMul; infer_instance
instance {i j : Int} : Decidable (CDiv i j) := by unfold CDiv; infer_instance
def repS (x : Str) : Nat → Str
  | 0 => Str.empty
  | n + 1 => x ++ repS x n
def timesS (x : Str) (n : Nat) : Str := ⟨(List.replicate n x.cps).foldl (· ++ ·) #[]⟩
def binD : Operator → D → D → Option D
  | .Add, .int i, .int j => some (.int (i + j))
  | .Add, .str x, .str y => if x.length + y.length ≤ sizeLine then some (.str (x ++ y)) else none
  | .Add, .lst xs, .lst ys => if xs.length + ys.length ≤ sizeLine then some (.lst (xs ++ ys)) else none
  | .Add, .tup xs, .tup ys => if xs.length + ys.length ≤ sizeLine then some (.tup (xs ++ ys)) else none
  | .Sub, .int i, .int j => some (.int (i - j))
  | .Mult, .str x, .int n => if 2 ≤ n ∧ n ≤ 1000 ∧ 1 ≤ x.length ∧ x.length ≤ 1000 ∧ (timesS x n.toNat).length ≤ 1000000 then some (.str (timesS x n.toNat)) else none
  | .Mult, .int i, .int j => if CMul i j then some (.int (i * j)) else none
  | .FloorDiv, .int i, .int j => if CDiv i j then some (.int (i / j)) else none
  | .Mod, .int i, .int j => if 0 < j then some (.int (i % j)) else none
  | _, _, _ => none
def cmpD : CmpOp → D → D → Option Bool
  | .Eq, a, b => if okEq a b then some (eqD a b) else none
  | .NotEq, a, b => if okEq a b then some (!eqD a b) else none
  | .Lt, a, b => if okLt a b then some (ltD a b) else none
  | .Gt, a, b => if okLt a b then some (ltD b a) else none
  | .LtE, a, b => if okLt a b then some (!ltD b a) else none
  | .GtE, a, b => if okLt a b then some (!ltD a b) else none
  | .In, a, .lst bs => if a.fit && fits bs then some (bs.any fun b => eqD b a) else none
  | .NotIn, a, .lst bs => if a.fit && fits bs then some (!bs.any fun b => eqD b a) else none
  | .In, a, .tup bs => if a.fit && fits bs then some (bs.any fun b => eqD b a) else none
  | .NotIn, a, .tup bs => if a.fit && fits bs then some (!bs.any fun b => eqD b a) else none
  | .In, a, .ctup bs => if a.fit && fits bs then some (bs.any fun b => eqD b a) else none
  | .NotIn, a, .ctup bs => if a.fit && fits bs then some (!bs.any fun b => eqD b a) else none
  | .In, a, .dK es => (dget (.dK es) a).map (·.isSome)
  | .NotIn, a, .dK es => (dget (.dK es) a).map (!·.isSome)
  | .In, a, .dT es => (dget (.dT es) a).map (·.isSome)
  | .NotIn, a, .dT es => (dget (.dT es) a).map (!·.isSome)
  | .In, .str x, .str y => some (!(Builtin.Str.occurrences y x 0 y.length 1).isEmpty)
  | .NotIn, .str x, .str y => some (!(!(Builtin.Str.occurrences y x 0 y.length 1).isEmpty))
  | _, _, _ => none
def idxD : D → D → Option D
  | .lst xs, .int i => atI xs i
  | .tup xs, .int i => atI xs i
  | .ctup xs, .int i => atI xs i
  | .str x, .int i => if x.length ≤ sizeLine then (atI x.cps.toList i).map fun c => .str ⟨#[c]⟩ else none
  | .dK es, k => (dget (.dK es) k).join
  | .dT es, k => (dget (.dT es) k).join
  | _, _ => none
def cutL {α : Type} (xs : List α) (lo hi : Option Int) : List α := (xs.drop (HT.sIx xs.length 0 lo)).take (HT.sIx xs.length xs.length hi - HT.sIx xs.length 0 lo)
def slD : D → Option Int → Option Int → Option D
  | .lst xs, lo, hi => some (.lst (cutL xs lo hi))
  | .tup xs, lo, hi => some (.tup (cutL xs lo hi))
  | .str x, lo, hi => if x.length ≤ sizeLine then some (.str (cutS x lo hi)) else none
  | _, _, _ => none
def intOf : D → Option Int
  | .int i => some i
  | _ => none
def blOf : D → Option Bool
  | .bl b => some b
  | _ => none
def isoD (a : D) (neg : Bool) : D → Option D
  | .non => some (.bl (a.isNon != neg))
  | .bl b => match a with
    | .bl c => some (.bl ((c == b) != neg))
    | _ => none
  | _ => none

inductive Bi where
  | abs | len | max | min | sorted | list | tuple | dict | str | int | ord | repr | sum | any | all | bool | setLen
  deriving DecidableEq
def leD (a b : D) : Bool := !ltD b a
def sortD (xs : List D) : List D := xs.mergeSort leD
def okSort (xs : List D) : Bool := okAll xs && (decide (xs.length ≤ sizeLine) && ((xs.all fun d => match d with
  | .tup (_ :: _) => true
  | .ctup (_ :: _) => true
  | _ => false) || xs.all fun d => match d with
  | .tup _ => false
  | .ctup _ => false
  | _ => true))
def sortedD (xs : List D) : Option D := if okSort xs then some (.lst (sortD xs)) else none
def intKs {β : Type} : List (Key × β) → Option (List Int)
  | [] => some []
  | (.inl i, _) :: r => (intKs r).map (i :: ·)
  | _ => none
def strKs {β : Type} : List (Key × β) → Option (List Str)
  | [] => some []
  | (.inr x, _) :: r => (strKs r).map (x :: ·)
  | _ => none
def leSt (a b : Str) : Bool := !decide (b.cps.toList < a.cps.toList)
def sortI (ks : List Int) : List Int := ks.mergeSort fun a b => decide (a ≤ b)
def sortT (ks : List Str) : List Str := ks.mergeSort leSt
/-- sorted of a dict: its keys -/
def sortKD (es : List (Key × D)) : Option D := match intKs es with
  | some ks => if ks.length < 64 then some (.lst ((sortI ks).map .int)) else none
  | none => match strKs es with
    | some ks => if ks.length < 64 then some (.lst ((sortT ks).map .str)) else none
    | none => none
def reprD' (d : D) : Option D := if okShw d then some (.str d.pyr.shown) else none
/-- isinstance(x, T): 0 int, 1 tuple, 2 list -/
def isTyD : Nat → D → Bool
  | 0, .int _ => true
  | 0, .bl _ => true
  | 1, .tup _ => true
  | 1, .ctup _ => true
  | 2, .lst _ => true
  | _, _ => false
def strsOf : List D → Option (List Str)
  | [] => some []
  | .str x :: r => (strsOf r).map fun q => x :: q
  | _ :: _ => none
/-- a lambda's body: one thing of its row, or a pair of them -/
def lamD (ks : List Nat) (u : D) : Option D := match ks with
  | [i] => idxD u (.int i)
  | [i, j] => (idxD u (.int i)).bind fun a => (idxD u (.int j)).map fun b => .tup [a, b]
  | _ => none
def pairsD : List D → Option (List (Int × Int))
  | [] => some []
  | .tup [.int a, .int b] :: r => if 0 ≤ a ∧ a < 64 ∧ 0 ≤ b ∧ b < 64 then (pairsD r).map ((a, b) :: ·) else none
  | _ => none
def ltP (p q : Int × Int) : Bool := decide (p.1 < q.1 ∨ p.1 = q.1 ∧ p.2 < q.2)
def insP (x : Int × Int) : List (Int × Int) → List (Int × Int)
  | [] => [x]
  | y :: r => if ltP x y then x :: y :: r else if x = y then y :: r else y :: insP x r
def srtP (l : List (Int × Int)) : List (Int × Int) := l.foldr insP []
def pairD (q : Int × Int) : D := .tup [.int q.1, .int q.2]
/-- sorted(set(xs)), xs pairs of small ints -/
def sstD : D → Option D
  | .lst xs => if xs.length < 64 then (pairsD xs).map fun l => .lst ((srtP l).map pairD) else none
  | _ => none
/-- the first place of an equal thing, of a text in a text -/
def lixD : D → D → Option D
  | .lst xs, a => if a.fit && fits xs then (xs.findIdx? fun x => eqD x a).map fun (i : Nat) => .int i else none
  | .str x, .str y => match Builtin.Str.occurrences x y 0 x.length 1 with
    | i :: _ => some (.int (i : Nat))
    | [] => none
  | _, _ => none
def joinD (x : Str) : D → Option D
  | .lst ds => (strsOf ds).bind fun ys => if (ys.map (·.length)).sum + ys.length * x.length ≤ 16777216 then some (.str (Txt.join x ys)) else none
  | _ => none
def bltD : Bi → List D → Option D
  | .abs, [.int i] => some (.int (if i < 0 then -i else i))
  | .len, [d] => lenD d
  | .max, [.int i, .int j] => some (.int (if j > i then j else i))
  | .min, [.int i, .int j] => some (.int (if j < i then j else i))
  | .max, [.tup a, .tup b] => if okAll [.tup a, .tup b] then some (maxD (.tup a) [.tup b]) else none
  | .min, [.tup a, .tup b] => if okAll [.tup a, .tup b] then some (minD (.tup a) [.tup b]) else none
  | .max, [.ctup a, .tup b] => if okAll [.ctup a, .tup b] then some (maxD (.ctup a) [.tup b]) else none
  | .max, [.tup a, .ctup b] => if okAll [.tup a, .ctup b] then some (maxD (.tup a) [.ctup b]) else none
  | .max, [.ctup a, .ctup b] => if okAll [.ctup a, .ctup b] then some (maxD (.ctup a) [.ctup b]) else none
  | .max, [.str a, .str b] => if okAll [.str a, .str b] then some (maxD (.str a) [.str b]) else none
  | .min, [.str a, .str b] => if okAll [.str a, .str b] then some (minD (.str a) [.str b]) else none
  | .max, [.lst (x :: xs)] => if okAll (x :: xs) && nocs (x :: xs) then some (maxD x xs) else none
  | .min, [.lst (x :: xs)] => if okAll (x :: xs) && nocs (x :: xs) then some (minD x xs) else none
  | .sorted, [.lst xs] => sortedD xs
  | .sorted, [.dK es] => sortKD es
  | .list, [.lst xs] => some (.lst xs)
  | .list, [.tup xs] => some (.lst xs)
  | .int, [.int i] => some (.int i)
  | .int, [.bl b] => some (.int (if b then 1 else 0))
  | .int, [.str x] => if x.length ≤ 640 then (intText? x).map D.int else none
  | .str, [.int i] => if i.natAbs.log2 < 1920 then some (.str (toString i)) else none
  | .ord, [.str x] => if x.length = 1 then some (.int (x.cps.getD 0 0 : Nat)) else none
  | .tuple, [.lst xs] => some (.tup xs)
  | .repr, [d] => if d.fit = true ∧ d.py.showable = true ∧ d.py.shown.length ≤ sizeLine then some (.str d.py.shown) else reprD' d
  | _, _ => none

/-! # the text in short, and what it does -/
inductive Cst where
  | non | bl (b : Bool) | int (i : Int) | str (x : Str)
  deriving DecidableEq
def Cst.d : Cst → D
  | .non => .non | .bl b => .bl b | .int i => .int i | .str x => .str x
/-- a constant of the text's top -/
inductive GC where
  | one (c : Cst) | many (cs : List Cst)
  deriving DecidableEq
def GC.d : GC → D
  | .one c => c.d
  | .many cs => .ctup (cs.map Cst.d)
/-- a target: a name's place, or names' places -/
inductive Tg where
  | nm (i : Nat) | nms (is : List Nat)
mutual
inductive Ex where
  | var (i : Nat)
  | cst (c : Cst)
  | glb (x : Str) (g : GC)
  | bin (o : Operator) (a b : Ex)
  | neg (a : Ex) | not (a : Ex)
  | and (a b : Ex) | or (a b : Ex)
  | ife (c a b : Ex)
  | cmp (o : CmpOp) (a b : Ex)
  | chn (o o' : CmpOp) (a b c : Ex)
  | iso (neg : Bool) (a b : Ex)
  | tup (as : Ar) | list (as : Ar)
  | dnew (t : Bool) | disp (ks vs : Ar)
  | idx (a b : Ex)
  | sl (a : Ex) (lo hi : Ar)
  | rev (a : Ex)
  | fld (a : Ex) (f : Str)
  | call (f : Str) (as : Ar)
  | mk (C : Str) (as : Ar)
  | meth (o : Ex) (m : Str) (as : Ar)
  | blt (b : Bi) (as : Ar)
  | get (o k : Ex) | getd (o k x : Ex)
  | comp (t : Tg) (it : It) (c : Ar) (e : Ex)
  | dcomp (t : Tg) (it : It) (c : Ar) (k v : Ex)
  | mref (e : Ex)
  | lrng (a b : Ex)
  | dcst (kvs : List (Cst × Cst))
  | dmrg (a b : Ex)
  | skey (f : Str) (e : Ex)
  | sitm (e : Ex)
  | sdt (e : Ex) | mdt (e : Ex)
  | iss (e : Ex)
  | ist (k : Nat) (e : Ex)
  | join (x : Str) (e : Ex)
  | lsl (a : Ex) (lo hi : Ar)
  | slam (ks : List Nat) (e : Ex)
  | sst (e : Ex)
  | lix (o x : Ex)
inductive Ar where
  | nil | cons (e : Ex) (as : Ar)
inductive It where
  | seq (e : Ex) | rng (a : Ex) | rng2 (a b : Ex) | items (e : Ex)
end
mutual
inductive Sm where
  | asg (t : Tg) (e : Ex)
  | own (i : Nat) (e : Ex)
  | par (is : List Nat) (es : Ar)
  | setf (o : Ex) (f : Str) (e : Ex)
  | seti (o k e : Ex)
  | app (o e : Ex)
  | pop (t : Option Tg) (o : Ex) (as : Ar)
  | expr (e : Ex)
  | aug (i : Nat) (o : Operator) (e : Ex)
  | augf (o : Ex) (f : Str) (p : Operator) (e : Ex)
  | ife (c : Ex) (a b : Sms)
  | for_ (t : Tg) (it : It) (b : Sms)
  | while_ (c : Ex) (b : Sms)
  | ret (e : Ex) | retN | brk | cnt | pass
inductive Sms where
  | nil | cons (s : Sm) (r : Sms)
  | frz (i : Nat) (r : Sms)
  | dead
end

inductive Hd where
  | val (d : D) | slot (i : Nat)
def cont (ρ : Env') (S : Store) : Hd → Option D
  | .val (.ref n) => match S[n]? with
    | some (.con d) => some d
    | some (.lck d) => some d
    | _ => none
  | .val d => some d
  | .slot i => match ρ[i]? with
    | some (.own d) => some d
    | _ => none
/-- what an expression hands to an operation that only looks -/
def hOf (e : Ex) (ρ : Env') (S : Store) (r : Option (D × Store)) : Option (Hd × Store) := match e with
  | .var i => match ρ[i]? with
    | some (.own _) => some (.slot i, S)
    | some (.fz d) => some (.val d, S)
    | _ => none
  | _ => r.map fun x => (.val x.1, x.2)
def setC (S : Store) (n : Nat) (d : D) : Option Store := match S[n]? with
  | some (.con _) => some (S.set n (.con d))
  | _ => none
def isDct : Option D → Bool
  | some (.dK _) => true
  | some (.dT _) => true
  | _ => false
def isLst : Option D → Bool
  | some (.lst _) => true
  | _ => false
def kindD : Option D → Nat
  | some (.lst _) => 1
  | some (.str _) => 2
  | _ => 0
def bindT (t : Tg) (d : D) (ρ : Env') : Option Env' := match t with
  | .nm i => some (ρ.set i (.fz d))
  | .nms is => match d with
    | .tup ds => if ds.length = is.length then some ((is.zip ds).foldl (fun ρ p => ρ.set p.1 (.fz p.2)) ρ) else none
    | .ctup ds => if ds.length = is.length then some ((is.zip ds).foldl (fun ρ p => ρ.set p.1 (.fz p.2)) ρ) else none
    | _ => none
/-- the defs as functions; which attributes a class's instances have -/
structure Fns where
  fn : Str × Option Str → List D → Store → Option (D × Store)
  fld : Str → Str → Bool
def wipeS (ρ : Env') : List Nat → Env'
  | [] => ρ
  | v :: vs => (wipeS ρ vs).set v .un
def Tg.ix : Tg → List Nat
  | .nm i => [i]
  | .nms is => is
open Classical in
noncomputable def compGo (kp : Store → Prop) (f : D → Store → Option (Option D × Store)) : List D → Store → Option (List D × Store)
  | [], S => some ([], S)
  | x :: xs, S => (f x S).bind fun r => if kp r.2 then (compGo kp f xs r.2).map fun q => (match r.1 with
    | some d => d :: q.1
    | none => q.1, q.2) else none
/-- a dict of the store is locked while it is walked -/
def lockS (ρ : Env') (S : Store) : Hd → Option (Store × Option (Nat × D))
  | .val (.ref n) => match S[n]? with
    | some (.con (.dK es)) => some (S.set n (.lck (.dK es)), some (n, .dK es))
    | some (.con (.dT es)) => some (S.set n (.lck (.dT es)), some (n, .dT es))
    | some (.con _) => some (S, none)
    | some (.lck _) => some (S, none)
    | _ => none
  | .val _ => some (S, none)
  | .slot i => match ρ[i]? with
    | some (.own (.lst _)) => some (S, none)
    | _ => none
def noSlot : Hd → Bool
  | .val _ => true
  | .slot _ => false
def noOwn (ρ : Env') (is : List Nat) : Bool := is.all fun i => match ρ[i]? with
  | some (.own _) => false
  | _ => true
def freeS (S : Store) : Option (Nat × D) → Option Store
  | none => some S
  | some (n, d) => match S[n]? with
    | some (.lck _) => some (S.set n (.con d))
    | _ => none
def rngD (i : Int) (n : Nat) : List D := (List.range n).map fun (k : Nat) => .int (i + (k : Int))
def smallI (i : Int) : Bool := decide (-(2 ^ 62) ≤ i) && decide (i < 2 ^ 62)
def dsp : List D → List D → Option (List (Key × D))
  | [], [] => some []
  | k :: ks, v :: vs => match keyK k, dsp ks vs with
    | some k, some r => some ((k, v) :: r)
    | _, _ => none
  | _, _ => none
def ixO : List D → Option (Option Int)
  | [] => some none
  | [.int i] => some (some i)
  | _ => none
/-- {**u, **v} -/
def mrgD : D → D → Option D
  | .dK es, .dK fs => if es.length + fs.length ≤ sizeLine then some (.dK (fs.foldl (fun acc e => dput acc e.1 e.2) (es.foldl (fun acc e => dput acc e.1 e.2) []))) else none
  | _, _ => none
/-- by keys -/
def sortByD (xs ks : List D) : Option D := if okSort ks = true ∧ xs.length = ks.length then some (.lst (((xs.zip ks).mergeSort fun a b => leD a.2 b.2).map (·.1))) else none
open Classical in
noncomputable def keysG (f : D → Option (D × Store)) (S : Store) : List D → Option (List D)
  | [] => some []
  | x :: xs => (f x).bind fun r => if r.2 = S then (keysG f S xs).map fun ks => r.1 :: ks else none
def nodupD : List D → Bool
  | [] => true
  | x :: xs => (xs.all fun y => !eqD x y) && nodupD xs
/-- keys that a sort tells apart -/
def okDist (ks : List D) : Bool := okAll ks && (decide (ks.length ≤ sizeLine) && (nodupD ks && ks.all fun d => match d with
  | .int _ => true
  | .str _ => true
  | .tup _ => true
  | _ => false))
/-- sorted(d.items()) -/
def sitD : D → Option D
  | .dK es => if okDist (es.map fun e => dK1 e.1) then some (.lst ((es.mergeSort fun a b => leD (dK1 a.1) (dK1 b.1)).map fun e => .tup [dK1 e.1, e.2])) else none
  | .dT es => if okDist (es.map fun e => dT1 e.1) then some (.lst ((es.mergeSort fun a b => leD (dT1 a.1) (dT1 b.1)).map fun e => .tup [dT1 e.1, e.2])) else none
  | _ => none
/-- isinstance(x, str) -/
def isStrD : D → Bool
  | .str _ => true
  | _ => false
/-- sorted(d), max(d) of a dict whose keys are tuples -/
def sdtD : D → Option D
  | .dT es => sortedD (es.map fun e => dT1 e.1)
  | _ => none
def mdtD : D → Option D
  | .dT es => match es.map fun e => dT1 e.1 with
    | x :: xs => if okAll (x :: xs) && nocs (x :: xs) then some (maxD x xs) else none
    | [] => none
  | _ => none
/-- a dict comprehension's pairs, put one by one -/
def mkd : List D → List (Key × D) → Option (List (Key × D))
  | [], es => some es
  | .tup [k, v] :: r, es => (keyK k).bind fun k => mkd r (dput es k v)
  | _, _ => none
def newRef (S : Store) (d : D) : Option (D × Store) := match d with
  | .lst xs => some (.ref S.length, S ++ [.con (.lst xs)])
  | .dK xs => some (.ref S.length, S ++ [.con (.dK xs)])
  | .dT xs => some (.ref S.length, S ++ [.con (.dT xs)])
  | _ => none
mutual
noncomputable def evE (G : Fns) : Ex → Env' → Store → Option (D × Store)
  | .var i, ρ, S => match ρ[i]? with
    | some (.fz d) => some (d, S)
    | _ => none
  | .cst c, _, S => some (c.d, S)
  | .glb _ g, _, S => some (g.d, S)
  | .bin o a b, ρ, S => (hOf a ρ S (evE G a ρ S)).bind fun x => (hOf b ρ x.2 (evE G b ρ x.2)).bind fun y =>
      (cont ρ y.2 x.1).bind fun u => (cont ρ y.2 y.1).bind fun v => (binD o u v).map fun d => (d, y.2)
  | .neg a, ρ, S => (evE G a ρ S).bind fun x => (intOf x.1).map fun i => (.int (-i), x.2)
  | .not a, ρ, S => (evE G a ρ S).bind fun x => (blOf x.1).map fun b => (.bl (!b), x.2)
  | .and a b, ρ, S => (evE G a ρ S).bind fun x => (blOf x.1).bind fun c => if c then evE G b ρ x.2 else some (.bl false, x.2)
  | .or a b, ρ, S => (evE G a ρ S).bind fun x => (blOf x.1).bind fun c => if c then some (.bl true, x.2) else evE G b ρ x.2
  | .ife c a b, ρ, S => (evE G c ρ S).bind fun x => (blOf x.1).bind fun c => if c then evE G a ρ x.2 else evE G b ρ x.2
  | .cmp o a b, ρ, S => (hOf a ρ S (evE G a ρ S)).bind fun x => (hOf b ρ x.2 (evE G b ρ x.2)).bind fun y =>
      (cont ρ y.2 x.1).bind fun u => (cont ρ y.2 y.1).bind fun v => (cmpD o u v).map fun c => (.bl c, y.2)
  | .chn o o' a b c, ρ, S => (hOf a ρ S (evE G a ρ S)).bind fun x => (hOf b ρ x.2 (evE G b ρ x.2)).bind fun y =>
      (cont ρ y.2 x.1).bind fun u => (cont ρ y.2 y.1).bind fun v => (cmpD o u v).bind fun r =>
        if r then (hOf c ρ y.2 (evE G c ρ y.2)).bind fun z => (cont ρ z.2 y.1).bind fun v' => (cont ρ z.2 z.1).bind fun w => (cmpD o' v' w).map fun c => (.bl c, z.2) else some (.bl false, y.2)
  | .iso n a b, ρ, S => (evE G a ρ S).bind fun x => (evE G b ρ x.2).bind fun y => (isoD x.1 n y.1).map fun d => (d, y.2)
  | .tup as, ρ, S => (evA G as ρ S).bind fun x => if x.1.length ≤ sizeLine then some (.tup x.1, x.2) else none
  | .list as, ρ, S => (evA G as ρ S).bind fun x => if x.1.length ≤ sizeLine then some (.lst x.1, x.2) else none
  | .dnew t, _, S => some (if t then .dT [] else .dK [], S)
  | .disp ks vs, ρ, S => (evA G ks ρ S).bind fun x => (evA G vs ρ x.2).bind fun y => (dsp x.1 y.1).bind fun es =>
      if es.length ≤ 15 then some (.dK (es.foldl (fun acc e => dput acc e.1 e.2) []), y.2) else none
  | .idx a b, ρ, S => (hOf a ρ S (evE G a ρ S)).bind fun x => (evE G b ρ x.2).bind fun y =>
      (cont ρ y.2 x.1).bind fun u => (idxD u y.1).map fun d => (d, y.2)
  | .sl a lo hi, ρ, S => (hOf a ρ S (evE G a ρ S)).bind fun x => (evA G lo ρ x.2).bind fun y => (evA G hi ρ y.2).bind fun z =>
      (cont ρ z.2 x.1).bind fun u => (ixO y.1).bind fun lo => (ixO z.1).bind fun hi => (slD u lo hi).map fun d => (d, z.2)
  | .lsl a lo hi, ρ, S => (hOf a ρ S (evE G a ρ S)).bind fun x => (evA G lo ρ x.2).bind fun y => (evA G hi ρ y.2).bind fun z =>
      (cont ρ z.2 x.1).bind fun u => (ixO y.1).bind fun lo => (ixO z.1).bind fun hi => match u with
      | .lst xs => some (.lst (cutL xs lo hi), z.2)
      | _ => none
  | .rev a, ρ, S => (hOf a ρ S (evE G a ρ S)).bind fun x => (cont ρ x.2 x.1).bind fun u => match u with
      | .lst xs => some (.lst xs.reverse, x.2)
      | _ => none
  | .fld a f, ρ, S => (evE G a ρ S).bind fun x => match x.1 with
      | .ref n => (match x.2[n]? with
        | some (.ins C fs) => if G.fld C f then (fs.lookup f).map fun d => (d, x.2) else none
        | _ => none)
      | _ => none
  | .call f as, ρ, S => (evA G as ρ S).bind fun x => G.fn (f, none) x.1 x.2
  | .mk C as, ρ, S => (evA G as ρ S).bind fun x => (G.fn (C, some "__init__") (.ref x.2.length :: x.1) (x.2 ++ [.ins C []])).bind fun y => match y.1 with
      | .non => some (.ref x.2.length, y.2)
      | _ => none
  | .meth o m as, ρ, S => (evE G o ρ S).bind fun x => match x.1 with
      | .ref n => (match x.2[n]? with
        | some (.ins C fs) => if (fs.lookup m).isNone then (evA G as ρ x.2).bind fun y => G.fn (C, some m) (.ref n :: y.1) y.2 else none
        | _ => none)
      | _ => none
  | .blt b as, ρ, S => (evH G as ρ S).bind fun x => (x.1.mapM (cont ρ x.2)).bind fun ds => (bltD b ds).map fun d => (d, x.2)
  | .get o k, ρ, S => (hOf o ρ S (evE G o ρ S)).bind fun x => if isDct (cont ρ x.2 x.1) then (evE G k ρ x.2).bind fun y =>
      (cont ρ y.2 x.1).bind fun u => (dget u y.1).map fun r => (r.getD .non, y.2) else none
  | .getd o k d, ρ, S => (hOf o ρ S (evE G o ρ S)).bind fun x => if isDct (cont ρ x.2 x.1) then (evE G k ρ x.2).bind fun y => (evE G d ρ y.2).bind fun z =>
      (cont ρ z.2 x.1).bind fun u => (dget u y.1).map fun r => (r.getD z.1, z.2) else none
  | .comp t it c e, ρ, S => if noOwn ρ t.ix then (evI G it ρ S).bind fun w => (lockS ρ w.2.2 w.1).bind fun l =>
      (compGo (fun S' => cont ρ S' w.1 = cont ρ l.1 w.1) (fun d S' => (bindT t d (wipeS ρ t.ix)).bind fun ρ' => match c with
        | .nil => (evE G e ρ' S').map fun r => (some r.1, r.2)
        | .cons c _ => (evE G c ρ' S').bind fun q => (blOf q.1).bind fun b => if b then (evE G e ρ' q.2).map fun r => (some r.1, r.2) else some (none, q.2)) w.2.1 l.1).bind fun y =>
      (freeS y.2 l.2).bind fun S' => if y.1.length ≤ sizeLine then some (.lst y.1, S') else none else none
  | .dcomp t it c k v, ρ, S => if noOwn ρ t.ix then (evI G it ρ S).bind fun w => (lockS ρ w.2.2 w.1).bind fun l =>
      (compGo (fun S' => cont ρ S' w.1 = cont ρ l.1 w.1) (fun d S' => (bindT t d (wipeS ρ t.ix)).bind fun ρ' => match c with
        | .nil => (evE G k ρ' S').bind fun r => (evE G v ρ' r.2).map fun q => (some (.tup [r.1, q.1]), q.2)
        | .cons c _ => (evE G c ρ' S').bind fun q => (blOf q.1).bind fun b => if b then (evE G k ρ' q.2).bind fun r => (evE G v ρ' r.2).map fun q => (some (.tup [r.1, q.1]), q.2) else some (none, q.2)) w.2.1 l.1).bind fun y =>
      (freeS y.2 l.2).bind fun S' => if y.1.length ≤ sizeLine then (mkd y.1 []).map fun es => (.dK es, S') else none else none
  | .mref e, ρ, S => (evE G e ρ S).bind fun x => newRef x.2 x.1
  | .lrng a b, ρ, S => (evE G a ρ S).bind fun x => (evE G b ρ x.2).bind fun y => (intOf x.1).bind fun i => (intOf y.1).bind fun j => if smallI i && (smallI j && decide ((j - i).toNat ≤ 1000000)) then some (.lst (rngD i (j - i).toNat), y.2) else none
  | .dcst kvs, _, S => (dsp (kvs.map fun q => q.1.d) (kvs.map fun q => q.2.d)).bind fun es => if es.length ≤ 15 ∧ es ≠ [] then some (.dK (es.foldl (fun acc e => dput acc e.1 e.2) []), S) else none
  | .dmrg a b, ρ, S => (hOf a ρ S (evE G a ρ S)).bind fun x => (cont ρ x.2 x.1).bind fun u => (hOf b ρ x.2 (evE G b ρ x.2)).bind fun y => (cont ρ y.2 y.1).bind fun v => (mrgD u v).map fun d => (d, y.2)
  | .skey f a, ρ, S => (hOf a ρ S (evE G a ρ S)).bind fun x => (cont ρ x.2 x.1).bind fun u => match u with
      | .lst (y :: ys) => (keysG (fun d => G.fn (f, none) [d] x.2) x.2 (y :: ys)).bind fun ks => (sortByD (y :: ys) ks).map fun d => (d, x.2)
      | _ => none
  | .sitm a, ρ, S => (hOf a ρ S (evE G a ρ S)).bind fun x => (cont ρ x.2 x.1).bind fun u => (sitD u).map fun d => (d, x.2)
  | .sdt a, ρ, S => (hOf a ρ S (evE G a ρ S)).bind fun x => (cont ρ x.2 x.1).bind fun u => (sdtD u).map fun d => (d, x.2)
  | .mdt a, ρ, S => (hOf a ρ S (evE G a ρ S)).bind fun x => (cont ρ x.2 x.1).bind fun u => (mdtD u).map fun d => (d, x.2)
  | .iss a, ρ, S => (hOf a ρ S (evE G a ρ S)).bind fun x => (cont ρ x.2 x.1).bind fun u => if u.plain then some (.bl (isStrD u), x.2) else none
  | .ist k a, ρ, S => (hOf a ρ S (evE G a ρ S)).bind fun x => (cont ρ x.2 x.1).bind fun u => if u.plain then some (.bl (isTyD k u), x.2) else none
  | .join x a, ρ, S => (hOf a ρ S (evE G a ρ S)).bind fun y => (cont ρ y.2 y.1).bind fun u => (joinD x u).map fun d => (d, y.2)
  | .slam js a, ρ, S => (hOf a ρ S (evE G a ρ S)).bind fun x => (cont ρ x.2 x.1).bind fun u => match u with
      | .lst ys => (keysG (fun d => (cont [] x.2 (.val d)).bind fun v => (lamD js v).map fun y => (y, x.2)) x.2 ys).bind fun ks => (sortByD ys ks).map fun d => (d, x.2)
      | _ => none
  | .sst a, ρ, S => (hOf a ρ S (evE G a ρ S)).bind fun x => (cont ρ x.2 x.1).bind fun u => (sstD u).map fun d => (d, x.2)
  | .lix o a, ρ, S => (hOf o ρ S (evE G o ρ S)).bind fun x => (evE G a ρ x.2).bind fun y => if kindD (cont ρ x.2 x.1) = kindD (cont ρ y.2 x.1) then (cont ρ y.2 x.1).bind fun u => (lixD u y.1).map fun d => (d, y.2) else none
noncomputable def evA (G : Fns) : Ar → Env' → Store → Option (List D × Store)
  | .nil, _, S => some ([], S)
  | .cons e as, ρ, S => (evE G e ρ S).bind fun x => (evA G as ρ x.2).map fun y => (x.1 :: y.1, y.2)
noncomputable def evH (G : Fns) : Ar → Env' → Store → Option (List Hd × Store)
  | .nil, _, S => some ([], S)
  | .cons e as, ρ, S => (hOf e ρ S (evE G e ρ S)).bind fun x => (evH G as ρ x.2).map fun y => (x.1 :: y.1, y.2)
noncomputable def evI (G : Fns) : It → Env' → Store → Option (Hd × List D × Store)
  | .seq e, ρ, S => (hOf e ρ S (evE G e ρ S)).bind fun x => (cont ρ x.2 x.1).bind fun u => (itemsIn u).map fun xs => (x.1, xs, x.2)
  | .rng a, ρ, S => (evE G a ρ S).bind fun x => (intOf x.1).bind fun j => if smallI j then some (.val .non, rngD 0 j.toNat, x.2) else none
  | .rng2 a b, ρ, S => (evE G a ρ S).bind fun x => (evE G b ρ x.2).bind fun y => (intOf x.1).bind fun i => (intOf y.1).bind fun j => if smallI i && smallI j then some (.val .non, rngD i (j - i).toNat, y.2) else none
  | .items e, ρ, S => (hOf e ρ S (evE G e ρ S)).bind fun x => (cont ρ x.2 x.1).bind fun u => (itemsOf u).map fun xs => (x.1, xs, x.2)
end

/-! ## statements -/
inductive Out where
  | nxt (ρ : Env') (S : Store) | ret (d : D) (S : Store) | brk (ρ : Env') (S : Store) | cnt (ρ : Env') (S : Store)
/-- a container changed: a name's own, or one of the store -/
def putC (ρ : Env') (S : Store) (h : Hd) (d : D) : Option (Env' × Store) := match h with
  | .slot i => some (ρ.set i (.own d), S)
  | .val (.ref n) => (setC S n d).map fun S' => (ρ, S')
  | _ => none
def setF (G : Fns) (S : Store) (n : Nat) (f : Str) (d : D) : Option Store := match S[n]? with
  | some (.ins C fs) => if fs.length < 1000 ∧ G.fld C f = true then some (S.set n (.ins C (fput fs f d))) else none
  | _ => none
where
  fput : List (Str × D) → Str → D → List (Str × D)
    | [], f, d => [(f, d)]
    | (g, x) :: r, f, d => if g = f then (g, d) :: r else (g, x) :: fput r f d
def setItem' : D → D → D → Option D
  | .lst xs, .int i, v => (ixN xs.length i).map fun j => .lst (xs.set j v)
  | .dK es, k, v => dset (.dK es) k v
  | .dT es, k, v => dset (.dT es) k v
  | _, _, _ => none
/-- what pop gives and leaves -/
def popD : D → List D → Option (D × D)
  | .lst xs, [] => (xs[xs.length - 1]?).map fun y => (y, .lst xs.dropLast)
  | .lst xs, [.int i] => if smallI i then (seqIndex? i xs.length).bind fun k => (xs[k]?).map fun y => (y, .lst (xs.eraseIdx k)) else none
  | .dK es, [k] => (keyK k).bind fun k => (look es k).map fun v => (v, .dK (ddrop es k))
  | .dK es, [k, x] => (keyK k).map fun k => match look es k with
    | some v => (v, .dK (ddrop es k))
    | none => (x, .dK es)
  | _, _ => none
open Classical in
noncomputable def forGo (kp : Store → Env' → Prop) (f : D → Env' → Store → Option Out) : List D → Env' → Store → Option Out
  | [], ρ, S => some (.nxt ρ S)
  | x :: xs, ρ, S => (f x ρ S).bind fun o => match o with
    | .nxt ρ' S' => if kp S' ρ' then forGo kp f xs ρ' S' else none
    | .cnt ρ' S' => if kp S' ρ' then forGo kp f xs ρ' S' else none
    | .brk ρ' S' => if kp S' ρ' then some (.brk ρ' S') else none
    | .ret d S' => if kp S' ρ then some (.ret d S') else none
def whGo (c : Env' → Store → Option (Bool × Store)) (f : Env' → Store → Option Out) : Nat → Env' → Store → Option Out
  | 0, _, _ => none
  | n + 1, ρ, S => (c ρ S).bind fun b => if b.1 then (f ρ b.2).bind fun o => match o with
    | .nxt ρ' S' => whGo c f n ρ' S'
    | .cnt ρ' S' => whGo c f n ρ' S'
    | .brk ρ' S' => some (.nxt ρ' S')
    | .ret d S' => some (.ret d S') else some (.nxt ρ b.2)
/-- how often a while may turn -/
def whMost : Nat := 2 ^ 60
def Out.after (o : Out) (l : Option (Nat × D)) : Option Out := match o with
  | .nxt ρ S => (freeS S l).map fun S => .nxt ρ S
  | .ret d S => (freeS S l).map fun S => .ret d S
  | .brk ρ S => (freeS S l).map fun S => .nxt ρ S
  | .cnt ρ S => (freeS S l).map fun S => .nxt ρ S
def isFresh : Ex → Bool
  | .list _ => true
  | .dnew _ => true
  | .disp _ _ => true
  | .comp _ _ _ _ => true
  | .dcomp _ _ _ _ _ => true
  | .blt .list _ => true
  | .blt .sorted _ => true
  | .blt .dict _ => true
  | .lrng _ _ => true
  | .dcst _ => true
  | .dmrg _ _ => true
  | .skey _ _ => true
  | .slam _ _ => true
  | .sst _ => true
  | .sitm _ => true
  | .sdt _ => true
  | .sl _ _ _ => false
  | _ => false
mutual
noncomputable def evS (G : Fns) : Sm → Env' → Store → Option Out
  | .asg t e, ρ, S => (evE G e ρ S).bind fun x => (bindT t x.1 ρ).map fun ρ' => .nxt ρ' x.2
  | .own i e, ρ, S => if isFresh e then (evE G e ρ S).bind fun x => match x.1 with
      | .lst xs => some (.nxt (ρ.set i (.own (.lst xs))) x.2)
      | .dK xs => some (.nxt (ρ.set i (.own (.dK xs))) x.2)
      | .dT xs => some (.nxt (ρ.set i (.own (.dT xs))) x.2)
      | _ => none else none
  | .par is es, ρ, S => (evA G es ρ S).bind fun x => if x.1.length = is.length then some (.nxt ((is.zip x.1).foldl (fun ρ p => ρ.set p.1 (.fz p.2)) ρ) x.2) else none
  | .setf o f e, ρ, S => (evE G e ρ S).bind fun x => (evE G o ρ x.2).bind fun y => match y.1 with
      | .ref n => (setF G y.2 n f x.1).map fun S' => .nxt ρ S'
      | _ => none
  | .seti o k e, ρ, S => (evE G e ρ S).bind fun x => (hOf o ρ x.2 (evE G o ρ x.2)).bind fun y => (evE G k ρ y.2).bind fun z =>
      (cont ρ z.2 y.1).bind fun u => (setItem' u z.1 x.1).bind fun d => (putC ρ z.2 y.1 d).map fun q => .nxt q.1 q.2
  | .app o e, ρ, S => (hOf o ρ S (evE G o ρ S)).bind fun x => if isLst (cont ρ x.2 x.1) then (evE G e ρ x.2).bind fun y => (cont ρ y.2 x.1).bind fun u => match u with
      | .lst xs => if xs.length < sizeLine then (putC ρ y.2 x.1 (.lst (xs ++ [y.1]))).map fun q => .nxt q.1 q.2 else none
      | _ => none else none
  | .pop t o as, ρ, S => (hOf o ρ S (evE G o ρ S)).bind fun x => (evA G as ρ x.2).bind fun y => if isLst (cont ρ x.2 x.1) = isLst (cont ρ y.2 x.1) ∧ isDct (cont ρ x.2 x.1) = isDct (cont ρ y.2 x.1) then (cont ρ y.2 x.1).bind fun u => (popD u y.1).bind fun r =>
      (putC ρ y.2 x.1 r.2).bind fun q => match t with
      | none => some (.nxt q.1 q.2)
      | some t => (bindT t r.1 q.1).map fun ρ' => .nxt ρ' q.2 else none
  | .expr e, ρ, S => (evE G e ρ S).map fun x => .nxt ρ x.2
  | .aug i o e, ρ, S => (evE G e ρ S).bind fun x => match ρ[i]? with
      | some (.fz u) => (match u, x.1 with
        | .int a, .int b => (match o with
          | .Add => some (.nxt (ρ.set i (.fz (.int (a + b)))) x.2)
          | .Sub => some (.nxt (ρ.set i (.fz (.int (a - b)))) x.2)
          | _ => none)
        | _, _ => none)
      | _ => none
  | .augf o f p e, ρ, S => (evE G o ρ S).bind fun x => match x.1 with
      | .ref n => (match x.2[n]? with
        | some (.ins C fs) => if G.fld C f = true then (match fs.lookup f with
          | some (.int a) => (evE G e ρ x.2).bind fun y => (match y.1, p, y.2[n]? with
            | .int b, .Add, some (.ins C' _) => if C' = C then (setF G y.2 n f (.int (a + b))).map fun S' => .nxt ρ S' else none
            | _, _, _ => none)
          | _ => none) else none
        | _ => none)
      | _ => none
  | .ife c a b, ρ, S => (evE G c ρ S).bind fun x => (blOf x.1).bind fun k => if k then evSs G a ρ x.2 else evSs G b ρ x.2
  | .for_ t it b, ρ, S => (evI G it ρ S).bind fun w => if noSlot w.1 then (lockS ρ w.2.2 w.1).bind fun l =>
      (forGo (fun S' ρ' => cont ρ' S' w.1 = cont ρ l.1 w.1) (fun d ρ' S' => (bindT t d ρ').bind fun ρ2 => evSs G b ρ2 S') w.2.1 ρ l.1).bind fun o => o.after l.2 else none
  | .while_ c b, ρ, S => whGo (fun ρ' S' => (evE G c ρ' S').bind fun x => (blOf x.1).map fun k => (k, x.2)) (fun ρ' S' => evSs G b ρ' S') whMost ρ S
  | .ret e, ρ, S => (evE G e ρ S).map fun x => .ret x.1 x.2
  | .retN, _, S => some (.ret .non S)
  | .brk, ρ, S => some (.brk ρ S)
  | .cnt, ρ, S => some (.cnt ρ S)
  | .pass, ρ, S => some (.nxt ρ S)
noncomputable def evSs (G : Fns) : Sms → Env' → Store → Option Out
  | .nil, ρ, S => some (.nxt ρ S)
  | .cons s r, ρ, S => (evS G s ρ S).bind fun o => match o with
    | .nxt ρ' S' => evSs G r ρ' S'
    | .ret d S' => some (.ret d S')
    | .brk ρ' S' => some (.brk ρ' S')
    | .cnt ρ' S' => some (.cnt ρ' S')
  | .frz i r, ρ, S => match ρ[i]? with
    | some (.own d) => evSs G r (ρ.set i (.fz d)) S
    | _ => none
  | .dead, _, _ => none
end
/-- a def: its names' places (how many, the parameters first), its body -/
structure Fd where
  np : Nat
  ns : Nat
  body : Sms
structure Prog where
  defs : List ((Str × Option Str) × Fd)
  flds : List (Str × List Str)
def Prog.fld (T : Prog) (C f : Str) : Bool := match T.flds.lookup C with
  | some l => decide (f ∈ l)
  | none => false
noncomputable def runF (T : Prog) : Nat → Str × Option Str → List D → Store → Option (D × Store)
  | 0 => fun _ _ _ => none
  | n + 1 => fun f ds S => match T.defs.lookup f with
    | some fd => if ds.length = fd.np then (evSs ⟨runF T n, T.fld⟩ fd.body (ds.map Slot.fz ++ List.replicate (fd.ns - fd.np) .un) S).bind fun o => match o with
        | .ret d S' => some (d, S')
        | .nxt _ S' => some (.non, S')
        | _ => none else none
    | none => none
noncomputable def run (T : Prog) (n : Nat) : Fns := ⟨runF T n, T.fld⟩
end Z

set_option Elab.async false
set_option linter.all false
set_option maxRecDepth 100000
set_option maxHeartbeats 4000000
namespace Z
open PySem PySem.Spec PyProof.Rows L2

/-! # growing -/
structure Grow (F H F' H' : Hp) : Prop where
  h : LeH H H'
  f : LeH F F'
  new : ∀ a o, F' a = some o → F a = some o ∨ (H' a = some o ∧ (H a = none ∨ ∃ vs, o = .tup vs))
  nt : ∀ a ps, F' a = some (.tbl ps) → F a = some (.tbl ps)
theorem Grow.refl {F H : Hp} : Grow F H F H := ⟨LeH.refl _, LeH.refl _, fun _ _ h => .inl h, fun _ _ h => h⟩
theorem Grow.one {F H : Hp} {a : Addr} {o : HO} (hF : F a = none) (hH : H a = none) (n : ∀ ps, o ≠ .tbl ps := by intro _ z; cases z) : Grow F H (upd F a o) (upd H a o) :=
  ⟨LeH.upd hH, LeH.upd hF, fun b u e => by
    by_cases h : b = a
    · subst h; rw [upd_same] at e; cases e; exact .inr ⟨upd_same, .inl hH⟩
    · rw [upd_ne h] at e; exact .inl e, fun b ps e => by
    by_cases h : b = a
    · subst h; rw [upd_same] at e; exact absurd (Option.some.inj e) (n ps)
    · rw [upd_ne h] at e; exact e⟩
theorem SubH.rd {H : Hp} {a : Addr} {o : HO} (s : SubH H a o) : Rd H a o := by
  rcases s with s | ⟨_, ob, s⟩
  · exact .inl s
  · exact .inr ⟨ob, s⟩
theorem SubH.le {H H' : Hp} {a : Addr} {o : HO} (h : LeH H H') (s : SubH H a o) : SubH H' a o := by
  rcases s with s | ⟨k, ob, s⟩
  · exact .inl (h _ _ s)
  · exact .inr ⟨k, ob, h _ _ s⟩
theorem SubH.lst {H : Hp} {a : Addr} {vs : List V} (s : SubH H a (.lst vs)) : H a = some (.lst vs) := by
  rcases s with s | ⟨⟨_, k⟩ | ⟨_, k⟩, _, _⟩
  · exact s
  · cases k
  · cases k
theorem SubH.tup {H : Hp} {a : Addr} {vs : List V} (s : SubH H a (.tup vs)) : TupAt H a vs := by
  rcases s with s | ⟨⟨_, k⟩ | ⟨_, k⟩, ob, q⟩
  · exact s
  · cases k
  · cases k
theorem SubH.frz {H : Hp} {a : Addr} {ob : Obj} {u : HO} (s : SubH H a (.frz ob u)) : H a = some (.frz ob u) := by
  rcases s with s | ⟨⟨_, k⟩ | ⟨_, k⟩, _, q⟩
  · exact s
  · cases k
  · cases k
theorem rd_sub {F H : Hp} (S : ∀ a o, F a = some o → SubH H a o) {a : Addr} {vs : List V} (r : Rd F a (.tup vs)) : Rd H a (.tup vs) := by
  rcases r with r | ⟨ob, r⟩
  · exact .inl (S _ _ r).tup
  · exact .inr ⟨ob, (S _ _ r).frz⟩
section
variable {p : Pg} {Pr : Hp} {ρ : Env'} {S : Store} {F F' : Hp} {ι : List Addr} {α : Nat → Addr} {σ : L2.St} {H H' : Hp}
theorem same_at {a : Addr} {o : HO} (h : LeH H H') (e : H a = some o) : H' a = H a := by
  rw [h _ _ e, e]
theorem Grow.none {a : Addr} {u : HO} (g : Grow F H F' H') (hF : F a = Option.none) (t : H a = some u) (n : NoT u) : F' a = Option.none := by
  cases e : F' a with
  | none => rfl
  | some o =>
    rcases g.new a o e with h | ⟨h, k | ⟨vs, k⟩⟩
    · rw [hF] at h; cases h
    · rw [t] at k; cases k
    · rw [g.h _ _ t] at h; cases h; rw [k] at n; exact n.elim
theorem Grow.trans {G I : Hp} (a : Grow F H F' H') (b : Grow F' H' G I) : Grow F H G I := ⟨a.h.trans b.h, a.f.trans b.f, fun x o e => by
  rcases b.new x o e with h | ⟨h, k⟩
  · rcases a.new x o h with h | ⟨h, k⟩
    · exact .inl h
    · exact .inr ⟨b.h _ _ h, k⟩
  · refine .inr ⟨h, k.imp (fun k => ?_) id⟩
    cases q : H x with
    | none => rfl
    | some u => rw [a.h _ _ q] at k; (cases k), fun x ps e => a.nt x ps (b.nt x ps e)⟩
theorem Wd.fresh (R : Wd p Pr S F ι H) {a : Addr} (h : H a = none) : F a = none := by
  cases e : F a with
  | none => rfl
  | some o =>
    rcases R.sub a o e with r | ⟨_, ob, r⟩
    · rw [h] at r; cases r
    · rw [h] at r; cases r
theorem Wd.notin (R : Wd p Pr S F ι H) {a : Addr} (h : H a = none) : a ∉ ι := fun hm => by
  obtain ⟨n, hn⟩ := List.getElem?_of_mem hm
  have hl : n < S.length := by rw [← R.len]; exact (List.getElem?_eq_some_iff.mp hn).1
  obtain ⟨_, t⟩ := R.cell n S[n] a (List.getElem?_eq_getElem hl) hn
  obtain ⟨o, t, _⟩ := t.there
  rw [h] at t; cases t
theorem Wd.grow (R : Wd p Pr S F ι H) (g : Grow F H F' H') : Wd p Pr S F' ι H' where
  sub := fun a o e => by
    rcases g.new a o e with h | ⟨h, _⟩
    · exact (R.sub a o h).le g.h
    · exact .inl h
  con := fun x d h => let ⟨u, v, h1, h2, h3⟩ := R.con x d h; ⟨u, v, h1, h2, h3.le g.f (LeA.refl _)⟩
  len := R.len
  nd := R.nd
  cell := fun n c a h1 h2 => by
    obtain ⟨q1, q2⟩ := R.cell n c a h1 h2
    obtain ⟨o, t, nt⟩ := q2.there
    exact ⟨g.none q1 t nt, q2.le g.f (LeA.refl _) (same_at g.h t)⟩
  prot := fun a o h => by
    obtain ⟨q1, q2, q3⟩ := R.prot a o h
    refine ⟨g.h _ _ q1, ?_, q3⟩
    by_cases hl : Loose o
    · exact .inr hl
    · rcases q2 with q2 | q2
      · refine .inl (g.none q2 q1 ?_)
        cases o <;> first | exact trivial | exact absurd trivial hl
      · exact .inr q2
  tab := ⟨tabs_keep R.tab.t fun b o _ e => g.h b o e, fun a ps e => R.tab.f a ps (g.nt a ps e), R.tab.p⟩
theorem Rel.grow (R : Rel p Pr ρ S F ι α σ H) (g : Grow F H F' H') : Rel p Pr ρ S F' ι α σ H' where
  wd := R.wd.grow g
  fz := fun i d h => let ⟨v, h1, h2⟩ := R.fz i d h; ⟨v, h1, h2.le g.f (LeA.refl _)⟩
  own := fun i d h => by
    obtain ⟨h1, h2, h3, h4, h5⟩ := R.own i d h
    obtain ⟨o, t, _, nt, _⟩ := h4.there
    exact ⟨h1, g.none h2 t nt, h3, h4.le g.f (LeA.refl _) (same_at g.h t), h5⟩
  lng := R.lng
  inj := R.inj
end

/-! # what an operation sees -/
def CV (p : Pg) (F : Hp) (ι : List Addr) (H : Hp) (v : V) : D → Prop
  | .non => v = .non | .bl b => v = .bl b | .int i => v = .int i | .str x => v = .str x
  | .lst ds => ∃ a vs, v = .ref a ∧ SqL p.K H a vs ∧ Reps p.K F ι vs ds
  | .tup ds => ∃ a vs, v = .ref a ∧ TupAt H a vs ∧ Reps p.K F ι vs ds
  | .dK es => ∃ a kvs, v = .ref a ∧ Rd H a (.dK kvs) ∧ kvs.map (·.1) = es.map (·.1) ∧ Reps p.K F ι (kvs.map (·.2)) (es.map (·.2))
  | .dT es => ∃ a kvs, v = .ref a ∧ Rd H a (.dT kvs) ∧ kvs.map (·.1) = es.map (·.1) ∧ Reps p.K F ι (kvs.map (·.2)) (es.map (·.2))
  | .ref _ => False
  | .ctup ds => ∃ a vs, v = .ref a ∧ Rd H a (.tup vs) ∧ Reps p.K F ι vs ds
def HRep (p : Pg) (F : Hp) (ι : List Addr) (α : Nat → Addr) (v : V) : Hd → Prop
  | .val d => Rep p.K F ι v d
  | .slot i => v = .ref (α i)
section
variable {p : Pg} {Pr : Hp} {ρ : Env'} {S : Store} {F F' : Hp} {ι ι' : List Addr} {α : Nat → Addr} {σ : L2.St} {H H' : Hp} {v : V} {d : D} {h : Hd}
theorem HRep.le (a : LeH F F') (b : LeA ι ι') (r : HRep p F ι α v h) : HRep p F' ι' α v h := by
  cases h with
  | val d => exact Rep.le a b r
  | slot i => exact r
theorem CV.of_rep (s : ∀ a o, F a = some o → SubH H a o) (r : Rep p.K F ι v d) (hd : ∀ n, d ≠ .ref n) : CV p F ι H v d := by
  cases r with
  | non => rfl
  | bl b => rfl
  | int i => rfl
  | str x => rfl
  | lst a r => exact ⟨_, _, rfl, .of (s _ _ a).lst, r⟩
  | tup a r => exact ⟨_, _, rfl, (s _ _ a).tup, r⟩
  | dK a e r => exact ⟨_, _, rfl, (s _ _ a).rd, e, r⟩
  | dT a e r => exact ⟨_, _, rfl, (s _ _ a).rd, e, r⟩
  | ref e => exact absurd rfl (hd _)
  | ctup a r => exact ⟨_, _, rfl, rd_sub s a, r⟩
theorem CV.of_c {a : Addr} (r : CRep p.K F ι H a d) : CV p F ι H (.ref a) d := by
  cases d <;> simp only [CRep] at r
  · obtain ⟨vs, e, q⟩ := r; exact ⟨_, _, rfl, .inl (.inl e), q⟩
  · obtain ⟨vs, e, k, q⟩ := r; exact ⟨_, _, rfl, .inl e, k, q⟩
  · obtain ⟨vs, e, k, q⟩ := r; exact ⟨_, _, rfl, .inl e, k, q⟩
theorem CV.of_l {a : Addr} (r : LRep p.K F ι H a d) : CV p F ι H (.ref a) d := by
  cases d <;> simp only [LRep] at r
  · obtain ⟨o, vs, e, q⟩ := r; exact ⟨_, _, rfl, .inl (.inr ⟨_, e⟩), q⟩
  · obtain ⟨o, vs, e, k, q⟩ := r; exact ⟨_, _, rfl, .inr ⟨_, e⟩, k, q⟩
  · obtain ⟨o, vs, e, k, q⟩ := r; exact ⟨_, _, rfl, .inr ⟨_, e⟩, k, q⟩
theorem Wd.at {n : Nat} {c : Cell} (R : Wd p Pr S F ι H) (h : S[n]? = some c) : ∃ a, ι[n]? = some a ∧ F a = none ∧ CellRep p F ι H a c := by
  have hl : n < ι.length := by rw [R.len]; exact (List.getElem?_eq_some_iff.mp h).1
  exact ⟨ι[n], List.getElem?_eq_getElem hl, R.cell n c _ h (List.getElem?_eq_getElem hl)⟩
theorem cont_val (hd : ∀ n, d ≠ .ref n) : cont ρ S (.val d) = some d := by
  cases d <;> first | rfl | exact absurd rfl (hd _)
theorem cv_of (R : Rel p Pr ρ S F ι α σ H) (r : HRep p F ι α v h) (e : cont ρ S h = some d) : CV p F ι H v d := by
  cases h with
  | slot i =>
    cases (show v = .ref (α i) from r)
    simp only [cont] at e
    split at e
    · rename_i u hu
      cases e
      exact .of_c (R.own i _ hu).2.2.2.1
    · cases e
  | val u =>
    have r : Rep p.K F ι v u := r
    by_cases hr : ∃ n, u = .ref n
    · obtain ⟨n, rfl⟩ := hr
      cases r with
      | ref hn =>
        simp only [cont] at e
        split at e
        · rename_i c hc
          cases e
          obtain ⟨b, hb, _, q⟩ := R.wd.at hc
          rw [hn] at hb; cases hb
          exact .of_c q
        · rename_i c hc
          cases e
          obtain ⟨b, hb, _, q⟩ := R.wd.at hc
          rw [hn] at hb; cases hb
          exact .of_l q
        · cases e
    · have hd : ∀ n, u ≠ .ref n := fun n q => hr ⟨n, q⟩
      rw [cont_val hd] at e
      cases e
      exact .of_rep R.wd.sub r hd
mutual
theorem dp_of (s : ∀ a o, F a = some o → SubH H a o) : ∀ {d : D} {v : V}, Rep p.K F ι v d → d.plain = true → Dp p.K H v d.py
  | _, _, .non, _ => by rw [D.py]; exact .non
  | _, _, .bl b, _ => by rw [D.py]; exact .bl b
  | _, _, .int i, _ => by rw [D.py]; exact .int i
  | _, _, .str x, _ => by rw [D.py]; exact .str x
  | _, _, .lst a r, h => by rw [D.py]; rw [D.plain] at h; exact .lst (.of (s _ _ a).lst) (dps_of s r h)
  | _, _, .tup a r, h => by rw [D.py]; rw [D.plain] at h; exact .tup (s _ _ a).tup.sq (dps_of s r h)
  | _, _, .dK _ _ _, h => by rw [D.plain] at h; cases h
  | _, _, .dT _ _ _, h => by rw [D.plain] at h; cases h
  | _, _, .ref _, h => by rw [D.plain] at h; cases h
  | _, _, .ctup a r, h => by rw [D.py]; rw [D.plain] at h; exact .tup (.inl (rd_sub s a)) (dps_of s r h)
theorem dps_of (s : ∀ a o, F a = some o → SubH H a o) : ∀ {ds : List D} {vs : List V}, Reps p.K F ι vs ds → plains ds = true → DpAll p.K H vs (pys ds)
  | _, _, .nil, _ => by rw [pys]; exact .nil
  | _, _, .cons a r, h => by
    rw [plains, Bool.and_eq_true] at h
    rw [pys]
    exact .cons (dp_of s a h.1) (dps_of s r h.2)
end
theorem CV.dp (s : ∀ a o, F a = some o → SubH H a o) (r : CV p F ι H v d) (h : d.plain = true) : Dp p.K H v d.py := by
  cases d with
  | non => cases (show v = .non from r); rw [D.py]; exact .non
  | bl b => cases (show v = .bl b from r); rw [D.py]; exact .bl b
  | int i => cases (show v = .int i from r); rw [D.py]; exact .int i
  | str x => cases (show v = .str x from r); rw [D.py]; exact .str x
  | lst ds => obtain ⟨a, vs, rfl, q1, q2⟩ := r; rw [D.plain] at h; rw [D.py]; exact .lst q1 (dps_of s q2 h)
  | tup ds => obtain ⟨a, vs, rfl, q1, q2⟩ := r; rw [D.plain] at h; rw [D.py]; exact .tup q1.sq (dps_of s q2 h)
  | dK _ => rw [D.plain] at h; cases h
  | dT _ => rw [D.plain] at h; cases h
  | ref _ => rw [D.plain] at h; cases h
  | ctup ds => obtain ⟨a, vs, rfl, q1, q2⟩ := r; rw [D.plain] at h; rw [D.py]; exact .tup (.inl q1) (dps_of s q2 h)
end
mutual
theorem lay_plain : ∀ d : D, d.plain = true → d.py.canLay0 = true
  | .non, _ => by simp [D.py, PyData.canLay0]
  | .bl b, _ => by simp [D.py, PyData.canLay0]
  | .int i, _ => by simp [D.py, PyData.canLay0]
  | .str x, h => by rw [D.plain] at h; simp [D.py, PyData.canLay0, h]
  | .lst xs, h => by rw [D.plain] at h; rw [D.py, PyData.canLay0]; exact lays_plain xs h
  | .tup xs, h => by rw [D.plain] at h; rw [D.py, PyData.canLay0]; exact lays_plain xs h
  | .dK _, h => by rw [D.plain] at h; cases h
  | .dT _, h => by rw [D.plain] at h; cases h
  | .ref _, h => by rw [D.plain] at h; cases h
  | .ctup xs, h => by rw [D.plain] at h; rw [D.py, PyData.canLay0]; exact lays_plain xs h
theorem lays_plain : ∀ ds : List D, plains ds = true → PyData.canLayAll0 (pys ds) = true
  | [], _ => by simp [pys, PyData.canLayAll0]
  | d :: ds, h => by
    rw [plains, Bool.and_eq_true] at h
    rw [pys, PyData.canLayAll0, lay_plain d h.1, lays_plain ds h.2]; rfl
end
theorem shaped_of {d : D} (h : d.fit = true) : SeqAt.shaped d.py = true := by
  unfold D.fit at h
  simp only [Bool.and_eq_true, decide_eq_true_eq] at h
  unfold SeqAt.shaped
  rw [lay_plain d h.1, Bool.true_and, decide_eq_true_eq]
  have := h.2
  unfold D.dep at this
  omega
theorem fit_plain {d : D} (h : d.fit = true) : d.plain = true := by
  unfold D.fit at h
  simp only [Bool.and_eq_true] at h
  exact h.1
mutual
theorem py_inj : ∀ a b : D, a.plain = true → b.plain = true → a.noc = true → b.noc = true → a.py = b.py → a = b
  | .non, b, _, hb, _, hn, e => by cases b <;> simp_all [D.py, D.plain, D.noc]
  | .bl _, b, _, hb, _, hn, e => by cases b <;> simp_all [D.py, D.plain, D.noc]
  | .int _, b, _, hb, _, hn, e => by cases b <;> simp_all [D.py, D.plain, D.noc]
  | .str _, b, _, hb, _, hn, e => by cases b <;> simp_all [D.py, D.plain, D.noc]
  | .lst xs, b, ha, hb, na, hn, e => by
    cases b with
    | lst ys =>
      rw [D.plain] at ha hb
      rw [D.noc] at na hn
      rw [D.py, D.py] at e
      rw [pys_inj xs ys ha hb na hn (by injection e)]
    | _ => simp_all [D.py, D.plain, D.noc]
  | .tup xs, b, ha, hb, na, hn, e => by
    cases b with
    | tup ys =>
      rw [D.plain] at ha hb
      rw [D.noc] at na hn
      rw [D.py, D.py] at e
      rw [pys_inj xs ys ha hb na hn (by injection e)]
    | _ => simp_all [D.py, D.plain, D.noc]
  | .dK _, _, ha, _, _, _, _ => by rw [D.plain] at ha; cases ha
  | .dT _, _, ha, _, _, _, _ => by rw [D.plain] at ha; cases ha
  | .ref _, _, ha, _, _, _, _ => by rw [D.plain] at ha; cases ha
  | .ctup _, _, _, _, na, _, _ => by rw [D.noc] at na; cases na
theorem pys_inj : ∀ a b : List D, plains a = true → plains b = true → nocs a = true → nocs b = true → pys a = pys b → a = b
  | [], [], _, _, _, _, _ => rfl
  | [], _ :: _, _, _, _, _, e => by rw [pys, pys] at e; cases e
  | _ :: _, [], _, _, _, _, e => by rw [pys, pys] at e; cases e
  | x :: xs, y :: ys, ha, hb, na, hn, e => by
    rw [plains, Bool.and_eq_true] at ha hb
    rw [nocs, Bool.and_eq_true] at na hn
    rw [pys, pys] at e
    injection e with e1 e2
    rw [py_inj x y ha.1 hb.1 na.1 hn.1 e1, pys_inj xs ys ha.2 hb.2 na.2 hn.2 e2]
end
theorem nocs_mem : ∀ {ds : List D}, nocs ds = true → ∀ d ∈ ds, d.noc = true
  | d :: ds, h, e, he => by
    rw [nocs, Bool.and_eq_true] at h
    rcases List.mem_cons.mp he with rfl | he
    · exact h.1
    · exact nocs_mem h.2 e he
theorem pys_map : ∀ ds : List D, pys ds = ds.map D.py
  | [] => by rw [pys]; rfl
  | d :: ds => by rw [pys, pys_map ds]; rfl
theorem plains_mem : ∀ {ds : List D}, plains ds = true → ∀ d ∈ ds, d.plain = true
  | d :: ds, h, e, he => by
    rw [plains, Bool.and_eq_true] at h
    rcases List.mem_cons.mp he with rfl | he
    · exact h.1
    · exact plains_mem h.2 e he

/-! # judgements -/
section
variable (X : Cx)
def wE (e : Expr) : TE := fun σ H Q => ∀ pins s, Inv X pins σ H s → wpAny (model X.prog X.w) X.A (eval e X.env) (EP X pins σ Q) X.xe s
def wT (e : Expr) : TT := fun σ H Q => ∀ pins s, Inv X pins σ H s → wpAny (model X.prog X.w) X.A (isTrue e X.env (eval e X.env)) (TP X pins σ Q) X.xe s
def wA (es : List Expr) : TA := fun σ H Q => ∀ pos pins s, Inv X pins σ H s → wpAny (model X.prog X.w) X.A (spliced (backTo pos (starEach es X.env))) (AP X pins σ Q) X.xe s
def wS (st : Stmt) : TS := fun D σ H => ∀ pins s, Inv X pins σ H s → wpAny (model X.prog X.w) X.A (exec st X.env) (SP X pins D) X.xe s
def wSs (st : List Stmt) : TS := fun D σ H => ∀ pins s, Inv X pins σ H s → wpAny (model X.prog X.w) X.A (execs st X.env) (SP X pins D) X.xe s
end
section
variable {X : Cx} {e : Expr} {es : List Expr} {st : Stmt} {sts : List Stmt} {σ : L2.St} {H : Hp}
theorem peW : PE X e (wE X e) := ⟨fun pins s _ _ _ I h => h pins s I⟩
theorem ptW : PT X e (wT X e) := ⟨fun pins s _ _ _ I h => h pins s I⟩
theorem paW : PA X es (wA X es) := ⟨fun pos pins s _ _ _ I h => h pos pins s I⟩
theorem psW : PS X st (wS X st) := ⟨fun pins s _ _ _ I h => h pins s I⟩
theorem pssW : PSs X sts (wSs X sts) := ⟨fun pins s _ _ _ I h => h pins s I⟩
theorem wE_of {t : TE} {Q : VK} (h : PE X e t) (q : t σ H Q) : wE X e σ H Q := fun pins s I => h.run pins s σ H Q I q
theorem wT_of {t : TT} {Q : Bool → Hp → Prop} (h : PT X e t) (q : t σ H Q) : wT X e σ H Q := fun pins s I => h.run pins s σ H Q I q
theorem wA_of {t : TA} {Q : List V → Hp → Prop} (h : PA X es t) (q : t σ H Q) : wA X es σ H Q := fun pos pins s I => h.run pos pins s σ H Q I q
theorem wS_of {t : TS} {D : Ends} (h : PS X st t) (q : t D σ H) : wS X st D σ H := fun pins s I => h.run pins s σ H D I q
theorem wSs_of {t : TS} {D : Ends} (h : PSs X sts t) (q : t D σ H) : wSs X sts D σ H := fun pins s I => h.run pins s σ H D I q
end

def _root_.L2.Cx.pg (X : Cx) (cls : Str → Option Addr) (con : Str → Option D) (T : List (Addr × Str)) : Pg := ⟨X.prog, X.w, X.K, X.mg, X.base, cls, con, T⟩
/-- what the making of a lambda asks of the running def: its code object and that one's table -/
def LamOf (p : Pg) (code : Value) (qual : Str) : Prop := ∃ c P : Addr, code = .ref c ∧ LamX.TabB p.base p.mg c P ∧ (P, qual ++ "<lambda>") ∈ p.T ∧ ∀ q ∈ p.T, q.1 = P → q.2 = qual ++ "<lambda>"
/-- where an expression stands: the names by places, the scope, which names' cells are its own -/
structure Good (p : Pg) (N : List Str) (sc : Scope) (fn : Str → Bool) (k : Nat) (X : Cx) : Prop where
  pg : X.pg p.cls p.con p.T = p
  calm : X.calm = true
  hN : X.N = N
  nd : List.Nodup N
  sc : X.env.scope = sc
  fn : X.fn = fn
  xe : X.xe = fun _ _ => False
  room : Room k X.A
  grd : X.A.guards = some []
  lam : ("<lam>" : Str) ∈ N → LamOf p X.env.code X.env.qual
def FE (p : Pg) (X : Cx) (ρ : Env') (S : Store) (e : Expr) (r : Option (D × Store)) : Prop :=
  ∀ Pr F ι α σ H, Rel p Pr ρ S F ι α σ H → ∀ d S', r = some (d, S') → ∀ Q : VK,
    (∀ v F' ι' H', Rel p Pr ρ S' F' ι' α σ H' → LeH F F' → LeA ι ι' → Rep p.K F' ι' v d → Q v H') → wE X e σ H Q
def FH (p : Pg) (X : Cx) (ρ : Env') (S : Store) (e : Expr) (r : Option (Hd × Store)) : Prop :=
  ∀ Pr F ι α σ H, Rel p Pr ρ S F ι α σ H → ∀ h S', r = some (h, S') → ∀ Q : VK,
    (∀ v F' ι' H', Rel p Pr ρ S' F' ι' α σ H' → LeH F F' → LeA ι ι' → HRep p F' ι' α v h → Q v H') → wE X e σ H Q
def FT (p : Pg) (X : Cx) (ρ : Env') (S : Store) (e : Expr) (r : Option (D × Store)) : Prop :=
  ∀ Pr F ι α σ H, Rel p Pr ρ S F ι α σ H → ∀ b S', r = some (.bl b, S') → ∀ Q : Bool → Hp → Prop,
    (∀ F' ι' H', Rel p Pr ρ S' F' ι' α σ H' → LeH F F' → LeA ι ι' → Q b H') → wT X e σ H Q
def FA (p : Pg) (X : Cx) (ρ : Env') (S : Store) (es : List Expr) (r : Option (List D × Store)) : Prop :=
  ∀ Pr F ι α σ H, Rel p Pr ρ S F ι α σ H → ∀ ds S', r = some (ds, S') → ∀ Q : List V → Hp → Prop,
    (∀ vs F' ι' H', Rel p Pr ρ S' F' ι' α σ H' → LeH F F' → LeA ι ι' → Reps p.K F' ι' vs ds → Q vs H') → wA X es σ H Q
abbrev HReps (p : Pg) (F : Hp) (ι : List Addr) (α : Nat → Addr) : List V → List Hd → Prop := Paired (HRep p F ι α)
def FHs (p : Pg) (X : Cx) (ρ : Env') (S : Store) (es : List Expr) (r : Option (List Hd × Store)) : Prop :=
  ∀ Pr F ι α σ H, Rel p Pr ρ S F ι α σ H → ∀ hs S', r = some (hs, S') → ∀ Q : List V → Hp → Prop,
    (∀ vs F' ι' H', Rel p Pr ρ S' F' ι' α σ H' → LeH F F' → LeA ι ι' → HReps p F' ι' α vs hs → Q vs H') → wA X es σ H Q
end Z

set_option Elab.async false
set_option linter.all false
set_option maxRecDepth 100000
set_option maxHeartbeats 4000000
namespace Z
open PySem PySem.Spec PyProof.Rows L2

/-! # operations on values -/
def wR (X : Cx) (f : Value → Value → Sem Value) : R2 := fun x y H Q => ∀ pins s σ v u, Inv X pins σ H s → RelV x v → RelV y u → wpAny (model X.prog X.w) X.A (f v u) (EP X pins σ Q) X.xe s
theorem wR_ok {X : Cx} {f : Value → Value → Sem Value} : OpR X f (wR X f) := fun pins s σ _ _ _ v u _ I rx ry h => h pins s σ v u I rx ry
theorem wR_of {X : Cx} {f : Value → Value → Sem Value} {r : R2} (h : OpR X f r) {x y : V} {H : Hp} {Q : VK} (q : r x y H Q) : wR X f x y H Q := fun pins s σ v u I rx ry => h pins s σ H x y v u Q I rx ry q

theorem addSeq {prog : Program} {w : World} {A : Around} {E : Value → Shared → Prop} {s : Shared} {l b : Addr} {vs ws : List Value} {Q : Value → Shared → Prop} (hl : s.heap.IsList l vs.toArray) (hb : s.heap.IsList b ws.toArray) (hz : vs.length + ws.length ≤ sizeLine)
    (h : Q (.ref s.heap.objs.size) { s with heap := s.heap.push { cls := .type "list", data := .seq (vs ++ ws).toArray } }) : wpAny (model prog w) A (binaryOp .Add (.ref l) (.ref b)) Q E s := by
  obtain ⟨⟨c1, d1, t1, s1⟩, g1, k1, n1, q1⟩ := id hl
  obtain ⟨⟨c2, d2, t2, s2⟩, g2, k2, n2, q2⟩ := id hb
  dsimp only at k1 q1 k2 q2
  subst k1 q1 k2 q2
  have e : (vs ++ ws).toArray = vs.toArray ++ ws.toArray := by simp
  rw [e] at h
  exact concat_meets ⟨_, g1, rfl⟩ ⟨_, g2, rfl⟩ noFill_list_add seq_list_add PySem.F.slot_list_add PySem.F.entry_list_add (PySem.F.args_list_add_2 _ _)
    (list_addW l b vs.toArray ws.toArray n1 n2 d1 d2 s1 s2 (by simpa using hz)) ⟨g1, g2, h⟩

section
variable {p : Pg} {X : Cx} {F H : Hp} {ι : List Addr} {x y : V} {u v d : D}
/-- a new list of the frozen part -/
theorem newL {Q : VK} {a : Addr} {vs : List V} {ds : List D} (S : ∀ a o, F a = some o → SubH H a o) (r : Reps p.K F ι vs ds) (ha : H a = none) (k : ∀ z F' H', Grow F H F' H' → Rep p.K F' ι z (.lst ds) → Q z H') : Q (.ref a) (upd H a (.lst vs)) := by
  have hF : F a = none := by
    cases e : F a with
    | none => rfl
    | some o => rcases S a o e with q | ⟨_, _, q⟩ <;> rw [ha] at q <;> cases q
  exact k _ _ _ (Grow.one hF ha) (.lst upd_same (r.le (LeH.upd hF) (LeA.refl _)))
theorem newT {Q : VK} {a : Addr} {vs : List V} {ds : List D} (S : ∀ a o, F a = some o → SubH H a o) (r : Reps p.K F ι vs ds) (ha : H a = none) (k : ∀ z F' H', Grow F H F' H' → Rep p.K F' ι z (.tup ds) → Q z H') : Q (.ref a) (upd H a (.tup vs)) := by
  have hF : F a = none := by
    cases e : F a with
    | none => rfl
    | some o => rcases S a o e with q | ⟨_, _, q⟩ <;> rw [ha] at q <;> cases q
  exact k _ _ _ (Grow.one hF ha) (.tup upd_same (r.le (LeH.upd hF) (LeA.refl _)))

theorem bin_ok (o : Operator) (hp : X.pg p.cls p.con p.T = p) (S : ∀ a o, F a = some o → SubH H a o) (cx : CV p F ι H x u) (cy : CV p F ι H y v) (fx : Rep p.K F ι x u ∨ ∀ ds, u ≠ .tup ds) (fy : Rep p.K F ι y v ∨ ∀ ds, v ≠ .tup ds) (e : binD o u v = some d) {Q : VK} (k : ∀ z F' H', Grow F H F' H' → Rep p.K F' ι z d → Q z H') : wR X (binaryOp o) x y H Q := by
  have hK : X.K = p.K := by rw [← hp]; rfl
  unfold binD at e
  split at e
  · cases cx; cases cy; cases e
    exact wR_of op_add ⟨_, _, rfl, rfl, k _ _ _ .refl (.int _)⟩
  · split at e
    · rename_i hz
      cases cx; cases cy; cases e
      exact wR_of op_add_str ⟨_, _, rfl, rfl, hz, k _ _ _ .refl (.str _)⟩
    · cases e
  · split at e
    · rename_i hz
      cases e
      obtain ⟨a, vs, rfl, q1, r1⟩ := cx
      obtain ⟨b, ws, rfl, q2, r2⟩ := cy
      intro pins s σ v u I rx ry
      cases rx; cases ry
      rw [← hK] at q1 q2
      obtain ⟨its, w1, p1, _⟩ := I.list q1
      obtain ⟨its2, w2, p2, _⟩ := I.list q2
      have hz' : vs.length + ws.length ≤ sizeLine := by rw [r1.length, r2.length]; exact hz
      refine addSeq p1.isList p2.isList (by rw [← w1.length, ← w2.length]; exact hz') ?_
      refine ⟨.ref s.heap.objs.size, _, I.lnew (ys := vs ++ ws) (w1.append w2) (by rw [List.length_append]; exact hz'), rfl, ?_⟩
      exact newL S (r1.app r2) (I.hok.fresh (Nat.le_refl _)) k
    · cases e
  · split at e
    · rename_i hz
      cases e
      obtain ⟨a, vs, rfl, q1, r1⟩ := cx
      obtain ⟨b, ws, rfl, q2, r2⟩ := cy
      refine wR_of op_catA ⟨a, b, vs, ws, rfl, rfl, q1.sq, q2.sq, by rw [r1.length, r2.length]; exact hz, fun h0 => ?_, fun h0 h1 => ?_, fun h0 h1 c hc => ?_⟩
      · subst h0
        cases r1
        rw [List.nil_append] at k
        exact k _ _ _ .refl (fy.resolve_right fun q => q _ rfl)
      · subst h1
        cases r2
        rw [List.append_nil] at k
        exact k _ _ _ .refl (fx.resolve_right fun q => q _ rfl)
      · exact newT S (r1.app r2) hc k
    · cases e
  · cases cx; cases cy; cases e
    exact wR_of op_sub ⟨_, _, rfl, rfl, k _ _ _ .refl (.int _)⟩
  · split at e
    · rename_i x n h
      obtain ⟨a1, a2, a3, a4, a5⟩ := h
      cases cx; cases cy; cases e
      intro pins s σ v u I rx ry
      obtain ⟨t, rfl⟩ := rx
      obtain ⟨t', rfl⟩ := ry
      have hz : sizeLine = 16777216 := sizeLine_eq
      have n1 : ¬ n < 1 := by omega
      have n2 : (n == 1 || x.length == 0) = false := by
        rw [Bool.or_eq_false_iff, beq_eq_false_iff_ne, beq_eq_false_iff_ne]
        constructor <;> omega
      refine P.mul_str ?_ (fun _ _ => ?_) (fun _ _ => ?_) ?_
      · rw [Bool.or_eq_false_iff, decide_eq_false_iff_not, decide_eq_false_iff_not]
        constructor <;> omega
      · have h1 : (x.length : Int) * n ≤ 1000 * 1000 := Int.mul_le_mul (by omega) (by omega) (by omega) (by omega)
        have h2 : (x.length : Int) ≤ (2 ^ 63 - 1) / n := Int.le_ediv_of_mul_le (by omega) (by omega)
        omega
      · have : x.length * n.toNat ≤ 1000 * 1000 := Nat.mul_le_mul a4 (by omega)
        unfold Builtin.Str.tooLong
        rw [decide_eq_false_iff_not]
        omega
      · rw [if_neg n1, n2]
        exact ⟨by show (timesS x n.toNat).length ≤ sizeLine; omega, ⟨.str (timesS x n.toNat), H, I.tok _, ⟨_, rfl⟩, k _ _ _ .refl (.str _)⟩⟩
    · cases e
  · split at e
    · rename_i hz
      cases cx; cases cy; cases e
      exact wR_of op_mul ⟨_, _, rfl, rfl, hz, k _ _ _ .refl (.int _)⟩
    · cases e
  · split at e
    · rename_i hz
      cases cx; cases cy; cases e
      exact wR_of op_fdiv ⟨_, _, rfl, rfl, hz, k _ _ _ .refl (.int _)⟩
    · cases e
  · split at e
    · rename_i hz
      cases cx; cases cy; cases e
      exact wR_of op_mod ⟨_, _, rfl, rfl, hz, k _ _ _ .refl (.int _)⟩
    · cases e
  · cases e

end

/-! ## dicts -/
section
variable {κ : Type} [DecidableEq κ] {K : PySem.W.Frag} {F : Hp} {ι : List Addr}
/-- a dict's pairs, by values and by data -/
def RKV (K : PySem.W.Frag) (F : Hp) (ι : List Addr) (kvs : List (κ × V)) (es : List (κ × D)) : Prop := kvs.map (·.1) = es.map (·.1) ∧ Reps K F ι (kvs.map (·.2)) (es.map (·.2))
theorem RKV.len {kvs : List (κ × V)} {es : List (κ × D)} (r : RKV K F ι kvs es) : kvs.length = es.length := by
  have := congrArg List.length r.1
  rwa [List.length_map, List.length_map] at this
theorem RKV.nil : RKV K F ι ([] : List (κ × V)) [] := ⟨rfl, .nil⟩
theorem RKV.cons {k : κ} {v : V} {d : D} {kvs : List (κ × V)} {es : List (κ × D)} (a : Rep K F ι v d) (r : RKV K F ι kvs es) : RKV K F ι ((k, v) :: kvs) ((k, d) :: es) :=
  ⟨by rw [List.map_cons, List.map_cons, r.1], .cons a r.2⟩
theorem RKV.elim {kvs : List (κ × V)} {es : List (κ × D)} (r : RKV K F ι kvs es) : (kvs = [] ∧ es = []) ∨ ∃ k v d kvs' es', kvs = (k, v) :: kvs' ∧ es = (k, d) :: es' ∧ Rep K F ι v d ∧ RKV K F ι kvs' es' := by
  cases kvs with
  | nil =>
    cases es with
    | nil => exact .inl ⟨rfl, rfl⟩
    | cons e es => have := r.1; simp at this
  | cons kv kvs =>
    cases es with
    | nil => have := r.1; simp at this
    | cons e es =>
      obtain ⟨k, v⟩ := kv
      obtain ⟨k', d⟩ := e
      have h1 := r.1
      rw [List.map_cons, List.map_cons] at h1
      injection h1 with h1 h2
      have h3 : Reps K F ι (v :: kvs.map (·.2)) (d :: es.map (·.2)) := r.2
      cases h3 with
      | cons a b =>
        have h1 : k = k' := h1
        subst h1
        exact .inr ⟨k, v, d, kvs, es, rfl, rfl, a, h2, b⟩
theorem RKV.look (k : κ) : ∀ {kvs : List (κ × V)} {es : List (κ × D)}, RKV K F ι kvs es → (Z.look es k = none ∧ valV kvs k = none) ∨ ∃ v d, Z.look es k = some d ∧ valV kvs k = some v ∧ Rep K F ι v d := by
  intro kvs
  induction kvs with
  | nil =>
    intro es r
    rcases r.elim with ⟨_, rfl⟩ | ⟨_, _, _, _, _, h, _⟩
    · exact .inl ⟨rfl, rfl⟩
    · cases h
  | cons kv kvs ih =>
    intro es r
    rcases r.elim with ⟨h, _⟩ | ⟨k', v, d, kvs', es', h, rfl, a, b⟩
    · cases h
    · cases h
      by_cases e : k' = k
      · subst e
        exact .inr ⟨v, d, by simp [Z.look], by simp [valV], a⟩
      · rcases ih b with ⟨h1, h2⟩ | ⟨v', d', h1, h2, h3⟩
        · exact .inl ⟨by simpa [Z.look, e] using h1, by simpa [valV, e] using h2⟩
        · exact .inr ⟨v', d', by simpa [Z.look, e] using h1, by simpa [valV, e] using h2, h3⟩
theorem RKV.app {kvs kvs' : List (κ × V)} {es es' : List (κ × D)} (a : RKV K F ι kvs es) (b : RKV K F ι kvs' es') : RKV K F ι (kvs ++ kvs') (es ++ es') :=
  ⟨by rw [List.map_append, List.map_append, a.1, b.1], by rw [List.map_append, List.map_append]; exact a.2.app b.2⟩
theorem RKV.map (k : κ) {v : V} {d : D} (q : Rep K F ι v d) : ∀ {kvs : List (κ × V)} {es : List (κ × D)}, RKV K F ι kvs es →
    RKV K F ι (kvs.map fun e => if e.1 = k then (e.1, v) else e) (es.map fun e => if e.1 = k then (e.1, d) else e) := by
  intro kvs
  induction kvs with
  | nil =>
    intro es r
    rcases r.elim with ⟨_, rfl⟩ | ⟨_, _, _, _, _, h, _⟩
    · exact .nil
    · cases h
  | cons kv kvs ih =>
    intro es r
    rcases r.elim with ⟨h, _⟩ | ⟨k', w, e, kvs', es', h, rfl, a, b⟩
    · cases h
    · cases h
      rw [List.map_cons, List.map_cons]
      by_cases hk : k' = k
      · rw [if_pos hk, if_pos hk]; exact .cons q (ih b)
      · rw [if_neg hk, if_neg hk]; exact .cons a (ih b)
theorem RKV.put (k : κ) {v : V} {d : D} (q : Rep K F ι v d) {kvs : List (κ × V)} {es : List (κ × D)} (r : RKV K F ι kvs es) : RKV K F ι (putK kvs k v) (dput es k d) := by
  unfold putK dput
  rw [valV_any]
  rcases r.look k with ⟨h1, h2⟩ | ⟨_, _, h1, h2, _⟩
  · rw [h1, h2]
    exact r.app (.cons q .nil)
  · rw [h1, h2]
    exact r.map k q
theorem RKV.drop (k : κ) : ∀ {kvs : List (κ × V)} {es : List (κ × D)}, RKV K F ι kvs es → RKV K F ι (dropK kvs k) (ddrop es k) := by
  intro kvs
  induction kvs with
  | nil =>
    intro es r
    rcases r.elim with ⟨_, rfl⟩ | ⟨_, _, _, _, _, h, _⟩
    · exact .nil
    · cases h
  | cons kv kvs ih =>
    intro es r
    rcases r.elim with ⟨h, _⟩ | ⟨k', w, e, kvs', es', h, rfl, a, b⟩
    · cases h
    · cases h
      have := ih b
      unfold dropK ddrop at this ⊢
      by_cases hk : k' = k
      · rw [List.filter_cons_of_neg (by simp [hk]), List.filter_cons_of_neg (by simp [hk])]; exact this
      · rw [List.filter_cons_of_pos (by simp [hk]), List.filter_cons_of_pos (by simp [hk])]; exact .cons a this
theorem RKV.le {F' : Hp} {ι' : List Addr} (h : LeH F F') (g : LeA ι ι') {kvs : List (κ × V)} {es : List (κ × D)} (r : RKV K F ι kvs es) : RKV K F' ι' kvs es := ⟨r.1, r.2.le h g⟩
end
theorem keyK_rep {K : PySem.W.Frag} {F : Hp} {ι : List Addr} {v : V} {d : D} {k : Key} (r : Rep K F ι v d) (e : keyK d = some k) : v = kV k := by
  cases r <;> simp [keyK] at e <;> subst e <;> rfl
theorem keyKs_rep {K : PySem.W.Frag} {F : Hp} {ι : List Addr} : ∀ {ds : List D} {vs : List V} {ks : List Key}, Reps K F ι vs ds → keyKs ds = some ks → vs = ks.map kV
  | [], _, ks, r, e => by cases r; simp [keyKs] at e; subst e; rfl
  | d :: ds, _, ks, r, e => by
    cases r with
    | cons a b =>
      simp only [keyKs] at e
      split at e
      · rename_i k ks' h1 h2
        cases e
        rw [List.map_cons, keyK_rep a h1, keyKs_rep b h2]
      · cases e
section
variable {p : Pg} {X : Cx} {F H : Hp} {ι : List Addr} {x y v : V} {u k d : D}
theorem keyK_cv {ks : Key} (r : CV p F ι H v k) (e : keyK k = some ks) : v = kV ks := by
  cases k <;> simp [keyK] at e <;> subst e <;> exact r
theorem keyT_eq {d : D} {ks : List Key} (e : keyT d = some ks) : ∃ ds, d = .tup ds ∧ keyKs ds = some ks := by
  cases d <;> try cases e
  rename_i ds
  exact ⟨ds, rfl, e⟩
theorem keyT_cv {ks : List Key} (r : CV p F ι H v k) (e : keyT k = some ks) : ∃ b, v = .ref b ∧ H b = some (.tup (ks.map kV)) := by
  obtain ⟨ds, rfl, h1⟩ := keyT_eq e
  obtain ⟨a, vs, rfl, q1, q2⟩ := r
  have hv := keyKs_rep q2 h1
  subst hv
  exact ⟨a, rfl, q1⟩
theorem dget_ok (cx : CV p F ι H x u) (ry : CV p F ι H y k) {o : Option D} (e : dget u k = some o) : ∃ a o', x = .ref a ∧ DGet H a y o' ∧ IsD H a ∧ ((o = none ∧ o' = none) ∨ ∃ d v, o = some d ∧ o' = some v ∧ Rep p.K F ι v d) := by
  unfold dget at e
  split at e
  · rename_i es
    obtain ⟨key, h1, h2⟩ := Option.map_eq_some_iff.mp e
    obtain ⟨a, kvs, rfl, q1, q2, q3⟩ := cx
    refine ⟨a, valV kvs key, rfl, .inl ⟨kvs, key, q1, keyK_cv ry h1, rfl⟩, .inl ⟨_, q1⟩, ?_⟩
    rcases (show RKV p.K F ι kvs es from ⟨q2, q3⟩).look key with ⟨h3, h4⟩ | ⟨w, d, h3, h4, h5⟩
    · exact .inl ⟨by rw [← h2]; exact h3, h4⟩
    · exact .inr ⟨d, w, by rw [← h2]; exact h3, h4, h5⟩
  · rename_i es
    obtain ⟨key, h1, h2⟩ := Option.map_eq_some_iff.mp e
    obtain ⟨a, kvs, rfl, q1, q2, q3⟩ := cx
    obtain ⟨b, rfl, hb⟩ := keyT_cv ry h1
    refine ⟨a, valV kvs key, rfl, .inr ⟨kvs, key, b, q1, rfl, hb, rfl⟩, .inr ⟨_, q1⟩, ?_⟩
    rcases (show RKV p.K F ι kvs es from ⟨q2, q3⟩).look key with ⟨h3, h4⟩ | ⟨w, d, h3, h4, h5⟩
    · exact .inl ⟨by rw [← h2]; exact h3, h4⟩
    · exact .inr ⟨d, w, by rw [← h2]; exact h3, h4, h5⟩
  · cases e

theorem isNon_py {d : D} (h : d.isNon = false) (hf : d.plain = true) : d.py ≠ .none := by
  cases d <;> simp_all [D.isNon, D.py, D.plain]
theorem dep_fit {d : D} (h : d.fit = true) : d.py.depth ≤ 60 := by
  unfold D.fit at h
  simp only [Bool.and_eq_true, decide_eq_true_eq] at h
  exact h.2
theorem any_py (a : D) : ∀ bs : List D, ((pys bs).any fun b => PyData.eqv b a.py) = bs.any fun b => eqD b a
  | [] => by rw [pys]; rfl
  | b :: bs => by rw [pys, List.any_cons, List.any_cons, any_py a bs]; rfl
theorem in_room {X : Cx} {n : Nat} {a : D} {bs : List D} (hu : X.A.units + 64 < cLine) (ha : a.fit = true) : X.A.units + 1 + min n a.py.depth < cLine := by
  have h1 := dep_fit ha
  have h2 : min n a.py.depth ≤ a.py.depth := Nat.min_le_right _ _
  omega
theorem fits_lay {bs : List D} (h : fits bs = true) : PyData.canLayAll0 (pys bs) = true := lays_plain bs (by have := fit_plain h; rwa [D.plain] at this)
theorem cmp_ok (o : CmpOp) (hp : X.pg p.cls p.con p.T = p) (hu : X.A.units + 64 < cLine) (S : ∀ a o, F a = some o → SubH H a o) (cx : CV p F ι H x u) (cy : CV p F ι H y k) {c : Bool} (e : cmpD o u k = some c) {Q : VK} (q : Q (.bl c) H) : wR X (compareOp o) x y H Q := by
  have hK : X.K = p.K := by rw [← hp]; rfl
  intro pins s σ vx vy I rx ry
  have rd : ∀ {d : D} {z : V} {w : Value}, CV p F ι H z d → d.plain = true → RelV z w → ∃ as, Reads s.heap w d.py as := fun cz hz rz => Dp.reads I _ _ _ (by rw [hK]; exact cz.dp S hz) rz
  have fin : EP X pins σ Q (.bool c) s := ⟨.bl c, H, I, rfl, q⟩
  have hu1 : X.A.units + 1 < cLine := by omega
  unfold cmpD at e
  split at e
  · split at e
    · rename_i h; cases e
      unfold okEq at h; rw [Bool.and_eq_true] at h
      obtain ⟨as, r1⟩ := rd cx (fit_plain h.1) rx
      obtain ⟨bs, r2⟩ := rd cy (fit_plain h.2) ry
      exact SeqAt.compareEq_shaped r1 r2 (shaped_of h.1) (shaped_of h.2) hu fin
    · cases e
  · split at e
    · rename_i h; cases e
      unfold okEq at h; rw [Bool.and_eq_true] at h
      obtain ⟨as, r1⟩ := rd cx (fit_plain h.1) rx
      obtain ⟨bs, r2⟩ := rd cy (fit_plain h.2) ry
      exact SeqAt.compareNe_shaped r1 r2 (shaped_of h.1) (shaped_of h.2) hu fin
    · cases e
  all_goals first
    | (split at e
       · rename_i h; cases e
         unfold okLt at h; simp only [Bool.and_eq_true, Bool.not_eq_true'] at h
         obtain ⟨h1, h2, h3, h4⟩ := h
         obtain ⟨as, r1⟩ := rd cx (fit_plain h1) rx
         obtain ⟨bs, r2⟩ := rd cy (fit_plain h2) ry
         have room : X.A.units + min u.py.depth k.py.depth < cLine := by
           have g1 := dep_fit h1
           have g2 : min u.py.depth k.py.depth ≤ u.py.depth := Nat.min_le_left _ _
           omega
         first
           | exact PySem.W.lt_data r1 r2 h3 (isNon_py h4 (fit_plain h1)) room fin
           | exact PySem.W.gt_data r1 r2 h3 (isNon_py h4 (fit_plain h1)) room fin
           | exact PySem.W.le_data r1 r2 h3 (isNon_py h4 (fit_plain h1)) room fin
           | exact PySem.W.ge_data r1 r2 h3 (isNon_py h4 (fit_plain h1)) room fin
       · cases e)
    | (split at e
       · rename_i h; cases e
         rw [Bool.and_eq_true] at h
         obtain ⟨as, r1⟩ := rd cx (fit_plain h.1) rx
         obtain ⟨bs, r2⟩ := rd cy (by first | exact fit_plain h.2 | (have g := fit_plain h.2; rw [D.plain] at g; rw [D.plain]; exact g)) ry
         rw [D.py] at r2
         rw [← any_py] at fin
         first
           | exact SeqAt.in_list_reads r2 r1 (fits_lay h.2) (lay_plain _ (fit_plain h.1)) (in_room (bs := []) hu h.1) fin
           | exact SeqAt.notIn_list_reads r2 r1 (fits_lay h.2) (lay_plain _ (fit_plain h.1)) (in_room (bs := []) hu h.1) fin
           | exact SeqAt.in_tuple_reads r2 r1 (fits_lay h.2) (lay_plain _ (fit_plain h.1)) (in_room (bs := []) hu h.1) fin
           | exact SeqAt.notIn_tuple_reads r2 r1 (fits_lay h.2) (lay_plain _ (fit_plain h.1)) (in_room (bs := []) hu h.1) fin
       · cases e)
    | (obtain ⟨r, h1, rfl⟩ := Option.map_eq_some_iff.mp e
       obtain ⟨a, o', rfl, g, _, hh⟩ := dget_ok cy cx h1
       cases (show vy = .ref a from ry)
       have hs : o'.isSome = r.isSome := by rcases hh with ⟨rfl, rfl⟩ | ⟨_, _, rfl, rfl, _⟩ <;> rfl
       rw [← hs] at q
       first
         | exact d_in hu1 I g rx fun s' I' => ⟨.bl _, H, I', rfl, q⟩
         | exact d_notIn hu1 I g rx fun s' I' => ⟨.bl _, H, I', rfl, q⟩)
    | skip
  · cases cx; cases cy; cases e
    exact op_in_str pins s σ H _ _ vx vy Q I rx ry ⟨_, _, rfl, rfl, q⟩
  · cases cx; cases cy; cases e
    exact op_notin_str pins s σ H _ _ vx vy Q I rx ry ⟨_, _, rfl, rfl, q⟩
  · cases e

theorem cutL_len {α : Type} (xs : List α) (lo hi : Option Int) : (cutL xs lo hi).length ≤ xs.length := by
  unfold cutL; rw [List.length_take, List.length_drop]; omega
theorem Reps.cut {K : PySem.W.Frag} {vs : List V} {ds : List D} (r : Reps K F ι vs ds) (lo hi : Option Int) : Reps K F ι (cutV vs lo hi) (cutL ds lo hi) := by
  unfold cutV cutL
  rw [r.length]
  exact (r.drop _).take _
theorem atI_rep {K : PySem.W.Frag} {vs : List V} {ds : List D} (r : Reps K F ι vs ds) {i : Int} {d : D} (e : atI ds i = some d) : ∃ z, atI vs i = some z ∧ Rep K F ι z d := by
  unfold atI at e ⊢
  rw [r.length]
  obtain ⟨j, h1, h2⟩ := Option.bind_eq_some_iff.mp e
  obtain ⟨z, h3, h4⟩ := r.at h2
  exact ⟨z, by rw [h1]; exact h3, h4⟩
/-- a[b], by values -/
def wIx (X : Cx) (b : Expr) : R2 := fun x y H Q => ∀ (a : Expr) pins s σ v u, Inv X pins σ H s → RelV x v → RelV y u → wpAny (model X.prog X.w) X.A (subscriptTail a b v u) (EP X pins σ Q) X.xe s
theorem pe_wIx {X : Cx} {a b : Expr} {ta tb : TE} {pos : Pos} (ha : PE X a ta) (hb : PE X b tb) : PE X (.Subscript a b pos) (tOp (wIx X b) ta tb) := by
  refine ⟨fun pins s σ H Q I h => ?_⟩
  exact Subscript_ (binT ha hb I h fun v u s2 x y H2 I2 rx ry q => q a pins s2 σ v u I2 rx ry)
theorem idx_ok (hp : X.pg p.cls p.con p.T = p) (hu : X.A.units + 64 < cLine) {b : Expr} (hb : PlainIx b) (S : ∀ a o, F a = some o → SubH H a o) (cx : CV p F ι H x u) (cy : Rep p.K F ι y k) (e : idxD u k = some d) {Q : VK} (q : ∀ z, Rep p.K F ι z d → Q z H) : wIx X b x y H Q := by
  have hK : X.K = p.K := by rw [← hp]; rfl
  have hu1 : X.A.units + 1 < cLine := by omega
  have dict : ∀ {o : Option D}, dget u k = some o → o = some d → wIx X b x y H Q := by
    intro o h1 h2 a pins s σ v w I rx ry
    have hk : ∀ n, k ≠ .ref n := by
      intro n hn
      subst hn
      cases u <;> simp [dget, keyK, keyT] at h1
    obtain ⟨a', o', rfl, g, dd, hh⟩ := dget_ok cx (CV.of_rep S cy hk) h1
    rcases hh with ⟨h3, _⟩ | ⟨d', z, h3, rfl, h4⟩
    · rw [h2] at h3; cases h3
    · rw [h2] at h3; cases h3
      cases (show v = .ref a' from rx)
      obtain ⟨t1, t2, _⟩ := isD_at I dd
      exact tail_any t1 PySem.F.slot_dict_getitem.lookup (d_getItem hu1 I g ry fun w' s' I' rw' => ⟨z, H, I', rw', q z h4⟩) (hb _ _)
  unfold idxD at e
  split at e
  · cases cy
    obtain ⟨a, vs, rfl, q1, q2⟩ := cx
    obtain ⟨z, h1, h2⟩ := atI_rep q2 e
    intro a' pins s σ v w I rx ry
    exact ix_list a' b pins s σ H _ _ v w Q I rx ry ⟨a, vs, _, z, rfl, rfl, by rw [hK]; exact q1, h1, q z h2⟩ (hb _ _)
  · cases cy
    obtain ⟨a, vs, rfl, q1, q2⟩ := cx
    obtain ⟨z, h1, h2⟩ := atI_rep q2 e
    intro a' pins s σ v w I rx ry
    exact ix_tup a' b pins s σ H _ _ v w Q I rx ry ⟨a, vs, _, z, rfl, rfl, q1.sq, h1, q z h2⟩ (hb _ _)
  · cases cy
    obtain ⟨a, vs, rfl, q1, q2⟩ := cx
    obtain ⟨z, h1, h2⟩ := atI_rep q2 e
    intro a' pins s σ v w I rx ry
    exact ix_tup a' b pins s σ H _ _ v w Q I rx ry ⟨a, vs, _, z, rfl, rfl, .inl q1, h1, q z h2⟩ (hb _ _)
  · split at e
    · rename_i hz
      cases cy
      cases cx
      obtain ⟨c, h1, rfl⟩ := Option.map_eq_some_iff.mp e
      intro a' pins s σ v w I rx ry
      exact ix_str a' b pins s σ H _ _ v w Q I rx ry ⟨_, _, c, rfl, rfl, hz, h1, q _ (.str _)⟩ (hb _ _)
    · cases e
  · obtain ⟨o, h1, h2⟩ := Option.join_eq_some_iff.mp e |> fun h => (⟨_, h, rfl⟩ : ∃ o, dget _ k = some o ∧ o = some d)
    exact dict h1 h2
  · obtain ⟨o, h1, h2⟩ := Option.join_eq_some_iff.mp e |> fun h => (⟨_, h, rfl⟩ : ∃ o, dget _ k = some o ∧ o = some d)
    exact dict h1 h2
  · cases e
/-- a[lo:hi], by values -/
theorem sl_ok (hp : X.pg p.cls p.con p.T = p) (S : ∀ a o, F a = some o → SubH H a o) (cx : CV p F ι H x u) (fx : Rep p.K F ι x u ∨ ∀ ds, u ≠ .tup ds) {lo hi : Option Int} (e : slD u lo hi = some d) {Q : VK} (k : ∀ z F' H', Grow F H F' H' → Rep p.K F' ι z d → Q z H') :
    rSlL X.K x lo hi H Q ∨ rSlA X.K x lo hi H Q ∨ rSlS x lo hi H Q := by
  have hK : X.K = p.K := by rw [← hp]; rfl
  unfold slD at e
  split at e
  · cases e
    obtain ⟨a, vs, rfl, q1, q2⟩ := cx
    exact .inl ⟨a, vs, rfl, by rw [hK]; exact q1, fun c hc => newL S (q2.cut lo hi) hc k⟩
  · cases e
    obtain ⟨a, vs, rfl, q1, q2⟩ := cx
    refine .inr (.inl ⟨a, vs, rfl, q1.sq, fun hw => ?_, fun _ c hc => newT S (q2.cut lo hi) hc k⟩)
    rename_i xs
    have e2 : cutL xs lo hi = xs := by
      unfold cutL
      rw [← q2.length, hw.1, hw.2, List.drop_zero, Nat.sub_zero, q2.length, List.take_length]
    rw [e2] at k
    exact k _ _ _ .refl (fx.resolve_right fun q => q _ rfl)
  · split at e
    · rename_i hz
      cases e
      cases cx
      exact .inr (.inr ⟨_, rfl, hz, k _ _ _ .refl (.str _)⟩)
    · cases e
  · cases e
end
end Z

set_option Elab.async false
set_option linter.all false
set_option maxRecDepth 100000
set_option maxHeartbeats 4000000
namespace Z
open PySem PySem.Spec PyProof.Rows L2
/-! # repr of data with dicts -/
theorem pyrk_fst : ∀ es : List (Key × D), (pyrk es).map (·.1) = (es.map (·.1)).map keyP
  | [] => by rw [pyrk]; rfl
  | (k, d) :: r => by rw [pyrk, pyrp, List.map_cons, List.map_cons, List.map_cons, pyrk_fst r]
theorem pyrk_snd : ∀ es : List (Key × D), (pyrk es).map (·.2) = pyrs (es.map (·.2))
  | [] => by rw [pyrk]; simp [pyrs]
  | (k, d) :: r => by rw [pyrk, pyrp, List.map_cons, List.map_cons, pyrs, pyrk_snd r]
theorem shwk_snd : ∀ es : List (Key × D), shwk es = shws (es.map (·.2))
  | [] => by rw [shwk]; simp [shws]
  | (k, d) :: r => by rw [shwk, shwp, List.map_cons, shws, shwk_snd r]
theorem keyP_noDict : ∀ ks : List Key, PyData.hasDictAll (ks.map keyP) = false
  | [] => by simp [PyData.hasDictAll]
  | .inl i :: r => by simp [PyData.hasDictAll, keyP, PyData.hasDict, keyP_noDict r]
  | .inr x :: r => by simp [PyData.hasDictAll, keyP, PyData.hasDict, keyP_noDict r]
section
variable {P : Program} {w : World} {h : Heap}
theorem pairs_keys {knd : KeyKind P w Key} (hk : knd = mixKind P w) : ∀ {es : List DictEntry} {vs : List (Key × Value)}, Pairs knd es vs → ReadsAll h (es.map (·.key)) ((vs.map (·.1)).map keyP) [] := by
  intro es vs r
  subst hk
  induction r with
  | nil => exact .nil
  | @cons e kv es kvs h1 h2 _ ih =>
    have h1 : keyIs kv.1 e.key = true := h1
    rcases keyIs_shape h1 with ⟨i, t, e1, e2⟩ | ⟨x, t, e1, e2⟩
    · rw [List.map_cons, List.map_cons, List.map_cons, e1, e2]
      exact .cons (as := []) (bs := []) (.int i t) ih
    · rw [List.map_cons, List.map_cons, List.map_cons, e1, e2]
      exact .cons (as := []) (bs := []) (.str x t) ih
theorem pairs_vals {knd : KeyKind P w Key} : ∀ {es : List DictEntry} {vs : List (Key × Value)}, Pairs knd es vs → es.map (·.val) = vs.map (·.2) := by
  intro es vs r
  induction r with
  | nil => rfl
  | cons h1 h2 _ ih => rw [List.map_cons, List.map_cons, h2, ih]
end
section
variable {p : Pg} {X : Cx} {pins : List (Addr × Obj)} {σ : L2.St} {H F : Hp} {ι : List Addr} {s : Shared}
def Shown (P : Program) (w : World) (h : Heap) (u : Value) (d : PyData) : Prop := ∃ as bs, Reads h u d as ∧ ReadAtMost h d.depth bs ∧ ReprK P w bs h d.depth u d.shown
def ShownAll (P : Program) (w : World) (h : Heap) (us : List Value) (ds : List PyData) : Prop := ∃ as bs, ReadsAll h us ds as ∧ ReadAtMost h (PyData.depthAll ds) bs ∧ ReprAllK P w bs h (PyData.depthAll ds) us (PyData.shownAll ds)
theorem shown_lst {P : Program} {w : World} {h : Heap} {a : Addr} {its : List Value} {ds : List PyData} {o : Obj} {n : Nat} (h1 : h.get? a = some o) (h2 : o.cls = .type "list") (h3 : o.data = .seq its.toArray n) (r : ShownAll P w h its ds) : Shown P w h (.ref a) (.list ds) := by
  obtain ⟨as, bs, r1, hb, hk⟩ := r
  have r : Reads h (.ref a) (.list ds) _ := .list h1 h2 h3 r1
  have hna : a ∉ bs := not_mem_of_deeper r (by simp only [PyData.depth]; omega) hb
  refine ⟨_, a :: bs, r, ReadAtMost.cons r (by simp only [PyData.depth]; omega) hb, ?_⟩
  simp only [PyData.depth, PyData.shown]
  cases its with
  | nil =>
    have h4' : ReadsAll h [] ds _ := r1
    cases h4'
    simp only [PyData.shownAll, listText_nil]
    exact ReprK.listEmpty h1 h2 h3
  | cons x l => exact ReprK.list h1 h2 h3 hna (by simpa using hk.length_eq) (fun i y e => hk.item i y (by simpa using e))
theorem shown_tup {P : Program} {w : World} {h : Heap} {a : Addr} {its : List Value} {ds : List PyData} {o : Obj} {n : Nat} (h1 : h.get? a = some o) (h2 : o.cls = .type "tuple") (h3 : o.data = .seq its.toArray n) (r : ShownAll P w h its ds) : Shown P w h (.ref a) (.tuple ds) := by
  obtain ⟨as, bs, r1, hb, hk⟩ := r
  have r : Reads h (.ref a) (.tuple ds) _ := .tuple h1 h2 h3 r1
  have hna : a ∉ bs := not_mem_of_deeper r (by simp only [PyData.depth]; omega) hb
  refine ⟨_, a :: bs, r, ReadAtMost.cons r (by simp only [PyData.depth]; omega) hb, ?_⟩
  simp only [PyData.depth, PyData.shown]
  exact ReprK.tuple h1 h2 h3 hna hk
theorem shown_dic {P : Program} {w : World} {h : Heap} {a : Addr} {vs : List (Key × Value)} {es : List (Key × D)} (hs : (a == sysModules) = false) (dd : h.DictOf (mixKind P w) a vs) (hk : vs.map (·.1) = es.map (·.1)) (sh : PyData.showableKv (pyrk es) = true)
    (hz : (dictText (PyData.shownKv (pyrk es))).length ≤ sizeLine) (r : ShownAll P w h (vs.map (·.2)) (pyrs (es.map (·.2)))) : Shown P w h (.ref a) (.dict (pyrk es)) := by
  obtain ⟨as, b2, r1, hb2, k2⟩ := r
  obtain ⟨o, en, ep, h1, h2, h3, _, h5, _⟩ := dd
  have rk : ReadsAll h (en.toList.map (·.key)) ((pyrk es).map (·.1)) [] := by rw [pyrk_fst, ← hk]; exact pairs_keys rfl h5
  have rv : ReadsAll h (en.toList.map (·.val)) ((pyrk es).map (·.2)) as := by rw [pyrk_snd, pairs_vals h5]; exact r1
  have r : Reads h (.ref a) (.dict (pyrk es)) _ := .dict h1 h2.1 h3 rk rv
  obtain ⟨hs1, hs2⟩ := PyData.showableKv_split _ sh
  obtain ⟨b1, hb1, k1⟩ := ReprAllK.of_readsAll (prog := P) (w := w) rk hs1 (fun hx => by rw [pyrk_fst, keyP_noDict] at hx; cases hx) (fun t ht => let ⟨q, hq, hl⟩ := PyData.shownKv_key_le _ t ht; Nat.le_trans hl (Nat.le_trans (dictText_mem_le hq) hz))
  have e2 : PyData.depthAll (pyrs (es.map (·.2))) ≤ PyData.depthKv (pyrk es) := by rw [← pyrk_snd]; exact PyData.depthAll_vals_le _
  have hb : ReadAtMost h (PyData.depthKv (pyrk es)) (b1 ++ b2) := (hb1.mono (PyData.depthAll_keys_le _)).append (hb2.mono e2)
  have hna : a ∉ b1 ++ b2 := not_mem_of_deeper r (by simp only [PyData.depth]; omega) hb
  refine ⟨_, a :: (b1 ++ b2), r, ReadAtMost.cons r (by simp only [PyData.depth]; omega) hb, ?_⟩
  simp only [PyData.depth, PyData.shown, PyData.shownKv_eq]
  rw [← pairs_vals h5, ← pyrk_snd] at k2
  exact ReprK.dict h1 h2.1 h3 hs hna (ReprEntriesK.of_two en.toList _ _
    (k1.more_le (fun b hb => List.mem_append_left _ hb) (PyData.depthAll_keys_le _)) (k2.more_le (fun b hb => List.mem_append_right _ hb) (PyData.depthAll_vals_le _)))
theorem shown_nil {P : Program} {w : World} {h : Heap} : ShownAll P w h [] [] := ⟨[], [], .nil, (fun _ h => nomatch h), by simp only [PyData.shownAll]; exact .nil⟩
theorem shown_cons {P : Program} {w : World} {h : Heap} {u : Value} {us : List Value} {d : PyData} {ds : List PyData} (a : Shown P w h u d) (b : ShownAll P w h us ds) : ShownAll P w h (u :: us) (d :: ds) := by
  obtain ⟨a1, b1, r1, hb1, k1⟩ := a
  obtain ⟨a2, b2, r2, hb2, k2⟩ := b
  refine ⟨a1 ++ a2, b1 ++ b2, .cons r1 r2, ?_, ?_⟩
  · simp only [PyData.depthAll]
    exact (hb1.mono (Nat.le_max_left _ _)).append (hb2.mono (Nat.le_max_right _ _))
  · simp only [PyData.depthAll, PyData.shownAll]
    exact .cons ((k1.more fun b hb => List.mem_append_left _ hb).level_le (Nat.le_max_left _ _)) (k2.more_le (fun b hb => List.mem_append_right _ hb) (Nat.le_max_right _ _))
theorem shown_flat {P : Program} {w : World} {h : Heap} {u : Value} {d : PyData} (r : Reads h u d []) (hs : d.showable = true) (hd : d.hasDict = false) (hz : d.shown.length ≤ sizeLine) : Shown P w h u d := by
  obtain ⟨bs, h1, h2⟩ := ReprK.of_reads (prog := P) (w := w) r hs (fun z => by rw [hd] at z; cases z) hz
  exact ⟨_, bs, r, h1, h2⟩
theorem kv_vals {kvs : List (Key × V)} {vs : List (Key × Value)} (r : KV kvs vs) : Vals (kvs.map (·.2)) (vs.map (·.2)) := by
  unfold KV at r
  induction r with
  | nil => exact .nil
  | cons h _ ih => exact .cons h.2 ih
mutual
theorem shown_rep (hK : X.K = p.K) (S : ∀ a o, F a = some o → SubH H a o) (I : Inv X pins σ H s) : ∀ {d : D} {v : V} {u : Value}, Rep p.K F ι v d → RelV v u → d.shw = true → d.pyr.showable = true → d.pyr.shown.length ≤ sizeLine → Shown X.prog X.w s.heap u d.pyr
  | _, _, _, .non, r, _, hs, hz => by
    cases r; rw [D.pyr] at hs hz ⊢; exact shown_flat .none hs rfl hz
  | _, _, _, .bl b, r, _, hs, hz => by
    cases r; rw [D.pyr] at hs hz ⊢; exact shown_flat (.bool b) hs rfl hz
  | _, _, _, .int i, r, _, hs, hz => by
    obtain ⟨t, rfl⟩ := r; rw [D.pyr] at hs hz ⊢; exact shown_flat (.int i t) hs rfl hz
  | _, _, _, .str x, r, _, hs, hz => by
    obtain ⟨t, rfl⟩ := r; rw [D.pyr] at hs hz ⊢; exact shown_flat (.str x t) hs rfl hz
  | _, _, _, .lst a q, r, hw, hs, hz => by
    cases r
    rw [D.pyr] at hs hz ⊢
    rw [D.shw] at hw
    obtain ⟨its, rv, ⟨o, n, ho, hc, _, hd⟩, _⟩ := I.list (show SqL X.K H _ _ by rw [hK]; exact .of (S _ _ a).lst)
    rw [PyData.showable] at hs
    rw [PyData.shown] at hz
    exact shown_lst ho hc hd (shown_reps hK S I q rv hw hs fun t ht => Nat.le_trans (listText_mem_le ht) hz)
  | _, _, _, .tup a q, r, hw, hs, hz => by
    cases r
    rw [D.pyr] at hs hz ⊢
    rw [D.shw] at hw
    obtain ⟨its, rv, ⟨o, ho, hc, n, hd⟩, _⟩ := I.tuple (show SqT X.K H _ _ by rw [hK]; exact (S _ _ a).tup.sq)
    rw [PyData.showable] at hs
    rw [PyData.shown] at hz
    exact shown_tup ho hc hd (shown_reps hK S I q rv hw hs fun t ht => Nat.le_trans (tupleText_mem_le ht) hz)
  | _, _, _, .dK (es := es) a e q, r, hw, hs, hz => by
    cases r
    rw [D.pyr] at hs hz ⊢
    rw [D.shw, shwk_snd] at hw
    obtain ⟨z, lo, vs, rel, dd⟩ := dk_rd I.hok (S _ _ a).rd
    rw [PyData.showable] at hs
    rw [PyData.shown] at hz
    have rv : Vals _ (vs.map (·.2)) := kv_vals rel
    refine shown_dic lo dd (by rw [← rel.keys]; exact e) hs hz (shown_reps hK S I q rv hw ?_ fun t ht => ?_)
    · rw [← pyrk_snd]; exact (PyData.showableKv_split _ hs).2
    · rw [← pyrk_snd] at ht
      obtain ⟨q, hq, hl⟩ := PyData.shownKv_val_le _ t ht
      exact Nat.le_trans hl (Nat.le_trans (dictText_mem_le hq) hz)
  | _, _, _, .dT _ _ _, _, hw, _, _ => by rw [D.shw] at hw; cases hw
  | _, _, _, .ref _, _, hw, _, _ => by rw [D.shw] at hw; cases hw
  | _, _, _, .ctup a q, r, hw, hs, hz => by
    cases r
    rw [D.pyr] at hs hz ⊢
    rw [D.shw] at hw
    obtain ⟨its, rv, ⟨o, ho, hc, n, hd⟩, _⟩ := I.tuple (show SqT X.K H _ _ by rw [hK]; exact .inl (rd_sub S a))
    rw [PyData.showable] at hs
    rw [PyData.shown] at hz
    exact shown_tup ho hc hd (shown_reps hK S I q rv hw hs fun t ht => Nat.le_trans (tupleText_mem_le ht) hz)
theorem shown_reps (hK : X.K = p.K) (S : ∀ a o, F a = some o → SubH H a o) (I : Inv X pins σ H s) : ∀ {ds : List D} {vs : List V} {us : List Value}, Reps p.K F ι vs ds → Vals vs us → shws ds = true → PyData.showableAll (pyrs ds) = true → (∀ t ∈ PyData.shownAll (pyrs ds), t.length ≤ sizeLine) → ShownAll X.prog X.w s.heap us (pyrs ds)
  | _, _, _, .nil, r, _, _, _ => by cases r; rw [pyrs]; exact shown_nil
  | _, _, _, .cons a q, r, hw, hs, hz => by
    cases r with
    | cons r1 r2 =>
    rw [pyrs] at hs hz ⊢
    rw [shws, Bool.and_eq_true] at hw
    rw [PyData.showableAll, Bool.and_eq_true] at hs
    exact shown_cons (shown_rep hK S I a r1 hw.1 hs.1 (hz _ (by simp only [PyData.shownAll]; exact List.mem_cons_self ..))) (shown_reps hK S I q r2 hw.2 hs.2 fun t ht => hz t (by simp only [PyData.shownAll]; exact List.mem_cons_of_mem _ ht))
end
end
end Z

set_option Elab.async false
set_option linter.all false
set_option maxRecDepth 100000
set_option maxHeartbeats 4000000
namespace Z
open PySem PySem.Spec PyProof.Rows L2

/-! # max and min of two things -/
section
variable {prog : Program} {w : World} {A : Around} {E : Value → Shared → Prop} {s : Shared} {a b : Value} {da db : PyData} {as bs : List Addr} {Q : Value → Shared → Prop}
theorem two_reads (ra : Reads s.heap a da as) (rb : Reads s.heap b db bs) (o : Obj) : ∃ cs, ReadsAll (s.heap.push o) (#[a, b] : Array Value).toList [da, db] cs :=
  ⟨_, .cons (Reads.keeps (fun _ _ q => Heap.get?_push_of_some _ q) ra) (.cons (Reads.keeps (fun _ _ q => Heap.get?_push_of_some _ q) rb) .nil)⟩
theorem max_pair (hh : A.handled = none) (ra : Reads s.heap a da as) (rb : Reads s.heap b db bs) (ha : PySem.W.AlikeAll [da, db]) (hu : A.units + 1 + PyData.depthAll [da, db] < cLine)
    (h : ∀ h' tk, (∀ c o, s.heap.get? c = some o → h'.get? c = some o) → Q (if PySem.W.dataLt da db then b else a) { s with heap := h', toks := tk }) : wpAny (model prog w) A (call (.builtin "max") [a, b]) Q E s := by
  obtain ⟨cs, hr⟩ := two_reads ra rb { cls := .type "tuple", data := .seq #[a, b] }
  have hT : (s.heap.push { cls := .type "tuple", data := .seq #[a, b] }).IsTuple s.heap.objs.size #[a, b] := ⟨_, Heap.get?_push_size _ rfl, rfl, 0, rfl⟩
  refine call_function_tree F.kind_max F.plain_max F.entry_max (F.args_max2 a b) (wpAny_bind (wpAny_of_eq (show Builtin.Builtins.bindParams "max" ["key", "default"] 0 ⟨[], []⟩ = pure [none, none] from rfl) ?_))
  refine wpAny_bind (wpAny_newObj_type (wpAny_bind (wpAny_mono (Q := fun it s₂ => _) (PySem.W.iter_tupleW (A := A.in1) hh hT fun s₂ e W st hfp hw hk => ?_) (fun it s₂ q => q) fun _ _ q => q)))
  have hn : (toString "max" ++ toString ".loop" : String) = "max.loop" := by decide
  refine wpAny_bind (wpAny_newObj_type ?_)
  rw [hn]
  have hS : s₂.heap.objs.size ∉ [(s.heap.push { cls := .type "tuple", data := .seq #[a, b] }).objs.size, s.heap.objs.size] := fun hm => absurd (hfp _ hm) (Nat.lt_irrefl _)
  have cmp := PySem.W.cmpIn_gt (prog := prog) (w := w) (A := A.in1) (s := { s with heap := s.heap.push { cls := .type "tuple", data := .seq #[a, b] } }) hr ha hu
  refine wpAny_pure ⟨plainId_quiet F.plain_max_loop _, codeAny_max_loop_firstH W _ hw _ cmp s₂.heap.objs.size hS (fresh_in hk) _ (Nat.zero_lt_succ 1) (fun c o q => Heap.get?_push_of_some _ (hk c o q)) (W.frame 0 s₂ _ s₂.toks st (Nat.le_refl _) fun c _ o q => Heap.get?_push_of_some _ q) (Heap.get?_push_size _ rfl) fun v s' hP hm => ?_⟩
  obtain ⟨h', tk, rfl, hk'⟩ := PySem.W.moved_old e rfl (Moved.drop_new (tk := s₂.toks) hm (Nat.le_refl _))
  have old : ∀ c o, s.heap.get? c = some o → h'.get? c = some o := fun c o q => hk' c o (Heap.get?_push_of_some _ q)
  have hv : v = if PySem.W.dataLt da db then b else a := by
    have hP : (#[a, b] : Array Value)[argBest (fun i j => PySem.W.dataLt (([da, db] : List PyData).getD j .none) (([da, db] : List PyData).getD i .none)) 1]? = some v := hP
    by_cases q : PySem.W.dataLt da db = true
    · have e1 : argBest (fun i j => PySem.W.dataLt (([da, db] : List PyData).getD j .none) (([da, db] : List PyData).getD i .none)) 1 = 1 := by simp [argBest, q]
      rw [e1] at hP; rw [if_pos q]; simpa using hP.symm
    · have e1 : argBest (fun i j => PySem.W.dataLt (([da, db] : List PyData).getD j .none) (([da, db] : List PyData).getD i .none)) 1 = 0 := by simp [argBest, q]
      rw [e1] at hP; rw [if_neg q]; simpa using hP.symm
  rw [hv]
  exact h h' tk old
theorem min_pair (hh : A.handled = none) (ra : Reads s.heap a da as) (rb : Reads s.heap b db bs) (ha : PySem.W.AlikeAll [da, db]) (hu : A.units + 1 + PyData.depthAll [da, db] < cLine)
    (h : ∀ h' tk, (∀ c o, s.heap.get? c = some o → h'.get? c = some o) → Q (if PySem.W.dataLt db da then b else a) { s with heap := h', toks := tk }) : wpAny (model prog w) A (call (.builtin "min") [a, b]) Q E s := by
  obtain ⟨cs, hr⟩ := two_reads ra rb { cls := .type "tuple", data := .seq #[a, b] }
  have hT : (s.heap.push { cls := .type "tuple", data := .seq #[a, b] }).IsTuple s.heap.objs.size #[a, b] := ⟨_, Heap.get?_push_size _ rfl, rfl, 0, rfl⟩
  refine call_function_tree F.kind_min F.plain_min F.entry_min (F.args_min2 a b) (wpAny_bind (wpAny_of_eq (show Builtin.Builtins.bindParams "min" ["key", "default"] 0 ⟨[], []⟩ = pure [none, none] from rfl) ?_))
  refine wpAny_bind (wpAny_newObj_type (wpAny_bind (wpAny_mono (Q := fun it s₂ => _) (PySem.W.iter_tupleW (A := A.in1) hh hT fun s₂ e W st hfp hw hk => ?_) (fun it s₂ q => q) fun _ _ q => q)))
  have hn : (toString "min" ++ toString ".loop" : String) = "min.loop" := by decide
  refine wpAny_bind (wpAny_newObj_type ?_)
  rw [hn]
  have hS : s₂.heap.objs.size ∉ [(s.heap.push { cls := .type "tuple", data := .seq #[a, b] }).objs.size, s.heap.objs.size] := fun hm => absurd (hfp _ hm) (Nat.lt_irrefl _)
  have cmp := PySem.W.cmpIn_lt (prog := prog) (w := w) (A := A.in1) (s := { s with heap := s.heap.push { cls := .type "tuple", data := .seq #[a, b] } }) hr ha hu
  refine wpAny_pure ⟨plainId_quiet F.plain_min_loop _, codeAny_min_loop_firstH W _ hw _ cmp s₂.heap.objs.size hS (fresh_in hk) _ (Nat.zero_lt_succ 1) (fun c o q => Heap.get?_push_of_some _ (hk c o q)) (W.frame 0 s₂ _ s₂.toks st (Nat.le_refl _) fun c _ o q => Heap.get?_push_of_some _ q) (Heap.get?_push_size _ rfl) fun v s' hP hm => ?_⟩
  obtain ⟨h', tk, rfl, hk'⟩ := PySem.W.moved_old e rfl (Moved.drop_new (tk := s₂.toks) hm (Nat.le_refl _))
  have old : ∀ c o, s.heap.get? c = some o → h'.get? c = some o := fun c o q => hk' c o (Heap.get?_push_of_some _ q)
  have hv : v = if PySem.W.dataLt db da then b else a := by
    have hP : (#[a, b] : Array Value)[argBest (fun i j => PySem.W.dataLt (([da, db] : List PyData).getD i .none) (([da, db] : List PyData).getD j .none)) 1]? = some v := hP
    by_cases q : PySem.W.dataLt db da = true
    · have e1 : argBest (fun i j => PySem.W.dataLt (([da, db] : List PyData).getD i .none) (([da, db] : List PyData).getD j .none)) 1 = 1 := by simp [argBest, q]
      rw [e1] at hP; rw [if_pos q]; simpa using hP.symm
    · have e1 : argBest (fun i j => PySem.W.dataLt (([da, db] : List PyData).getD i .none) (([da, db] : List PyData).getD j .none)) 1 = 0 := by simp [argBest, q]
      rw [e1] at hP; rw [if_neg q]; simpa using hP.symm
  rw [hv]
  exact h h' tk old
end

/-! # calls of built-in functions -/
def Bi.fn : Bi → Value
  | .abs => .builtin "abs" | .len => .builtin "len" | .max => .builtin "max" | .min => .builtin "min" | .sorted => .builtin "sorted"
  | .list => .type "list" | .tuple => .type "tuple" | .dict => .type "dict" | .str => .type "str" | .int => .type "int" | .ord => .builtin "ord" | .repr => .builtin "repr"
  | .sum => .builtin "sum" | .any => .builtin "any" | .all => .builtin "all" | .bool => .type "bool" | .setLen => .none
def Bi.name : Bi → Str
  | .abs => "abs" | .len => "len" | .max => "max" | .min => "min" | .sorted => "sorted"
  | .list => "list" | .tuple => "tuple" | .dict => "dict" | .str => "str" | .int => "int" | .ord => "ord" | .repr => "repr"
  | .sum => "sum" | .any => "any" | .all => "all" | .bool => "bool" | .setLen => "?"
abbrev CVs (p : Pg) (F : Hp) (ι : List Addr) (H : Hp) : List V → List D → Prop := Paired (CV p F ι H)
def wC (X : Cx) (f : Value) : List V → Hp → VK → Prop := fun vs H Q => ∀ pins s σ us, Inv X pins σ H s → Vals vs us → wpAny (model X.prog X.w) X.A (call f us) (EP X pins σ Q) X.xe s
theorem wC_ok {X : Cx} {f : Value} : CallR X f (wC X f) := fun pins s σ _ vs us _ I r h => h pins s σ us I r
theorem wC_of {X : Cx} {f : Value} {r : List V → Hp → VK → Prop} (h : CallR X f r) {vs : List V} {H : Hp} {Q : VK} (q : r vs H Q) : wC X f vs H Q := fun pins s σ us I rv => h pins s σ H vs us Q I rv q
section
variable {p : Pg} {X : Cx} {F H : Hp} {ι : List Addr} {d : D}
theorem CVs.one {vs : List V} {e : D} (r : CVs p F ι H vs [e]) : ∃ v, vs = [v] ∧ CV p F ι H v e := by
  cases r with
  | cons a b => cases b; exact ⟨_, rfl, a⟩
theorem CVs.two {vs : List V} {e f : D} (r : CVs p F ι H vs [e, f]) : ∃ v w, vs = [v, w] ∧ CV p F ι H v e ∧ CV p F ι H w f := by
  cases r with
  | cons a b => cases b with
    | cons b c => cases c; exact ⟨_, _, rfl, a, b⟩
theorem alikeAll_of {ds : List D} (h : okAll ds = true) : PySem.W.AlikeAll (pys ds) ∧ plains ds = true ∧ PyData.depthAll (pys ds) ≤ 60 := by
  unfold okAll fits at h
  simp only [Bool.and_eq_true, List.all_eq_true, Bool.not_eq_true'] at h
  obtain ⟨h1, h2, h3⟩ := h
  have hp : plains ds = true := by have := fit_plain h1; rwa [D.plain] at this
  refine ⟨⟨fun x hx y hy => ?_, fun x hx => ?_⟩, hp, ?_⟩
  · rw [pys_map] at hx hy
    obtain ⟨a, ha, rfl⟩ := List.mem_map.mp hx
    obtain ⟨b, hb, rfl⟩ := List.mem_map.mp hy
    exact h2 a ha b hb
  · rw [pys_map] at hx
    obtain ⟨a, ha, rfl⟩ := List.mem_map.mp hx
    exact isNon_py (h3 a ha) (plains_mem hp a ha)
  · have := dep_fit h1
    rw [D.py, PyData.depth] at this
    omega
theorem plain_maxD : ∀ (xs : List D) (x : D), (∀ d ∈ x :: xs, d.plain = true) → (maxD x xs).plain = true ∧ (maxD x xs).py = PySem.W.maxD x.py (pys xs) ∧ maxD x xs ∈ x :: xs := by
  intro xs
  induction xs with
  | nil => intro x h; exact ⟨h x (by simp), by rw [pys]; rfl, by simp [maxD]⟩
  | cons y ys ih =>
    intro x h
    have e1 : maxD x (y :: ys) = maxD (if ltD x y then y else x) ys := rfl
    have e2 : PySem.W.maxD x.py (pys (y :: ys)) = PySem.W.maxD (if ltD x y then y else x).py (pys ys) := by
      rw [pys]
      show PySem.W.maxD (if PySem.W.dataLt x.py y.py then y.py else x.py) (pys ys) = _
      have : (if ltD x y then y else x).py = if PySem.W.dataLt x.py y.py then y.py else x.py := by
        unfold ltD; split <;> rfl
      rw [this]
    rw [e1, e2]
    have h' : ∀ d ∈ (if ltD x y then y else x) :: ys, d.plain = true := by
      intro d hd
      rcases List.mem_cons.mp hd with rfl | hd
      · split
        · exact h y (by simp)
        · exact h x (by simp)
      · exact h d (by simp [hd])
    obtain ⟨q1, q2, q3⟩ := ih _ h'
    refine ⟨q1, q2, ?_⟩
    rcases List.mem_cons.mp q3 with q | q
    · rw [q]; split <;> simp
    · simp [q]
theorem plain_minD : ∀ (xs : List D) (x : D), (∀ d ∈ x :: xs, d.plain = true) → (minD x xs).plain = true ∧ (minD x xs).py = PySem.W.minD x.py (pys xs) ∧ minD x xs ∈ x :: xs := by
  intro xs
  induction xs with
  | nil => intro x h; exact ⟨h x (by simp), by rw [pys]; rfl, by simp [minD]⟩
  | cons y ys ih =>
    intro x h
    have e1 : minD x (y :: ys) = minD (if ltD y x then y else x) ys := rfl
    have e2 : PySem.W.minD x.py (pys (y :: ys)) = PySem.W.minD (if ltD y x then y else x).py (pys ys) := by
      rw [pys]
      show PySem.W.minD (if PySem.W.dataLt y.py x.py then y.py else x.py) (pys ys) = _
      have : (if ltD y x then y else x).py = if PySem.W.dataLt y.py x.py then y.py else x.py := by
        unfold ltD; split <;> rfl
      rw [this]
    rw [e1, e2]
    have h' : ∀ d ∈ (if ltD y x then y else x) :: ys, d.plain = true := by
      intro d hd
      rcases List.mem_cons.mp hd with rfl | hd
      · split
        · exact h y (by simp)
        · exact h x (by simp)
      · exact h d (by simp [hd])
    obtain ⟨q1, q2, q3⟩ := ih _ h'
    refine ⟨q1, q2, ?_⟩
    rcases List.mem_cons.mp q3 with q | q
    · rw [q]; split <;> simp
    · simp [q]
/-- an item of a list that reads as d, d alike to all: it is d -/
theorem item_is (hp : X.pg p.cls p.con p.T = p) {pins : List (Addr × Obj)} {σ : L2.St} {s : Shared} (I : Inv X pins σ H s) (S : ∀ a o, F a = some o → SubH H a o) {ds : List D} {vs : List V} {us : List Value} (r : Reps p.K F ι vs ds) (rv : Vals vs us) (h : okAll ds = true) (nc : nocs ds = true) {m : D} (hm : m ∈ ds)
    {i : Nat} {u : Value} {h' : Heap} {bs : List Addr} (hu : us[i]? = some u) (rd : Reads h' u m.py bs) (hk : ∀ b o, s.heap.get? b = some o → h'.get? b = some o) : ∃ v, RelV v u ∧ Rep p.K F ι v m := by
  have hK : X.K = p.K := by rw [← hp]; rfl
  obtain ⟨al, pl, _⟩ := alikeAll_of h
  have hi : i < us.length := (List.getElem?_eq_some_iff.mp hu).1
  have hi2 : i < vs.length := by rw [rv.length]; exact hi
  obtain ⟨d, hd, rd2⟩ := r.of_at (List.getElem?_eq_getElem hi2)
  obtain ⟨u', hu', ru⟩ := rv.get (List.getElem?_eq_getElem hi2)
  rw [hu] at hu'; cases hu'
  have hdm : d ∈ ds := List.mem_of_getElem? hd
  obtain ⟨cs, q⟩ := Dp.reads I _ _ _ (by rw [hK]; exact dp_of S rd2 (plains_mem pl d hdm)) ru
  have q' := Reads.keeps hk q
  have e := PySem.W.alike_unique d.py m.py u cs bs (al.1 _ (by rw [pys_map]; exact List.mem_map_of_mem hdm) _ (by rw [pys_map]; exact List.mem_map_of_mem hm)) q' rd
  have e2 := py_inj d m (plains_mem pl d hdm) (plains_mem pl m hm) (nocs_mem nc d hdm) (nocs_mem nc m hm) e
  subst e2
  exact ⟨_, ru, rd2⟩
theorem blt_max (hp : X.pg p.cls p.con p.T = p) (hc : X.calm = true) (hr : X.A.units + 64 < cLine) (S : ∀ a o, F a = some o → SubH H a o) {x : D} {xs : List D} {v : V} (cv : CV p F ι H v (.lst (x :: xs))) (ok : okAll (x :: xs) = true) (nc : nocs (x :: xs) = true) {Q : VK} (k : ∀ z, Rep p.K F ι z (maxD x xs) → Q z H) : wC X (.builtin "max") [v] H Q := by
  have hK : X.K = p.K := by rw [← hp]; rfl
  obtain ⟨a, vs, rfl, q1, q2⟩ := cv
  intro pins s σ us I rv
  rw [Vals.ref1 rv]
  obtain ⟨its, rv2, pl, hz⟩ := I.list (by rw [hK]; exact q1)
  obtain ⟨al, pn, dp⟩ := alikeAll_of ok
  obtain ⟨as, ra⟩ := Dp.readsAll I _ _ its (by rw [hK]; exact dps_of S q2 pn) rv2
  rw [pys] at ra al dp
  obtain ⟨m1, m2, m3⟩ := plain_maxD xs x fun d hd => plains_mem pn d hd
  refine PySem.W.max_list_data (vs := its.toArray) (I.ok.hd hc) pl.isList (by simpa using ra) al (by omega) fun i w h' tk bs hw rd hk => ?_
  rw [← m2] at rd
  obtain ⟨z, z1, z2⟩ := item_is hp I S q2 rv2 ok nc m3 (by simpa using hw) rd hk
  exact ⟨z, H, I.kept hk, z1, k z z2⟩
theorem blt_min (hp : X.pg p.cls p.con p.T = p) (hc : X.calm = true) (hr : X.A.units + 64 < cLine) (S : ∀ a o, F a = some o → SubH H a o) {x : D} {xs : List D} {v : V} (cv : CV p F ι H v (.lst (x :: xs))) (ok : okAll (x :: xs) = true) (nc : nocs (x :: xs) = true) {Q : VK} (k : ∀ z, Rep p.K F ι z (minD x xs) → Q z H) : wC X (.builtin "min") [v] H Q := by
  have hK : X.K = p.K := by rw [← hp]; rfl
  obtain ⟨a, vs, rfl, q1, q2⟩ := cv
  intro pins s σ us I rv
  rw [Vals.ref1 rv]
  obtain ⟨its, rv2, pl, hz⟩ := I.list (by rw [hK]; exact q1)
  obtain ⟨al, pn, dp⟩ := alikeAll_of ok
  obtain ⟨as, ra⟩ := Dp.readsAll I _ _ its (by rw [hK]; exact dps_of S q2 pn) rv2
  rw [pys] at ra al dp
  obtain ⟨m1, m2, m3⟩ := plain_minD xs x fun d hd => plains_mem pn d hd
  refine PySem.W.min_list_data (vs := its.toArray) (I.ok.hd hc) pl.isList (by simpa using ra) al (by omega) fun i w h' tk bs hw rd hk => ?_
  rw [← m2] at rd
  obtain ⟨z, z1, z2⟩ := item_is hp I S q2 rv2 ok nc m3 (by simpa using hw) rd hk
  exact ⟨z, H, I.kept hk, z1, k z z2⟩
theorem two_data (hp : X.pg p.cls p.con p.T = p) {pins : List (Addr × Obj)} {σ : L2.St} {s : Shared} (I : Inv X pins σ H s) (S : ∀ a o, F a = some o → SubH H a o) {a b : D} {v w : V} {u u' : Value} (ok : okAll [a, b] = true) (ca : CV p F ι H v a) (cb : CV p F ι H w b) (ru : RelV v u) (ru' : RelV w u') :
    ∃ as bs, Reads s.heap u a.py as ∧ Reads s.heap u' b.py bs ∧ PySem.W.AlikeAll [a.py, b.py] ∧ PyData.depthAll [a.py, b.py] ≤ 60 := by
  have hK : X.K = p.K := by rw [← hp]; rfl
  obtain ⟨al, pn, dp⟩ := alikeAll_of ok
  rw [pys_map] at al dp
  obtain ⟨as, r1⟩ := Dp.reads I _ _ _ (by rw [hK]; exact ca.dp S (plains_mem pn a (by simp))) ru
  obtain ⟨bs, r2⟩ := Dp.reads I _ _ _ (by rw [hK]; exact cb.dp S (plains_mem pn b (by simp))) ru'
  exact ⟨as, bs, r1, r2, al, dp⟩
theorem blt_max2 (hp : X.pg p.cls p.con p.T = p) (hc : X.calm = true) (hr : X.A.units + 64 < cLine) (S : ∀ a o, F a = some o → SubH H a o) {a b : D} {v w : V} (ca : CV p F ι H v a) (cb : CV p F ι H w b) (ra : Rep p.K F ι v a) (rb : Rep p.K F ι w b) (ok : okAll [a, b] = true) {Q : VK} (k : ∀ z, Rep p.K F ι z (maxD a [b]) → Q z H) : wC X (.builtin "max") [v, w] H Q := by
  intro pins s σ us I rv
  obtain ⟨u, u', rfl, ru, ru'⟩ := vals2 rv
  obtain ⟨as, bs, r1, r2, al, dp⟩ := two_data hp I S ok ca cb ru ru'
  refine max_pair (I.ok.hd hc) r1 r2 al (by omega) fun h' tk hk => ?_
  have e : maxD a [b] = if PySem.W.dataLt a.py b.py then b else a := rfl
  rw [e] at k
  by_cases q : PySem.W.dataLt a.py b.py = true
  · rw [if_pos q] at k ⊢; exact ⟨w, H, I.kept hk, ru', k w rb⟩
  · rw [if_neg q] at k ⊢; exact ⟨v, H, I.kept hk, ru, k v ra⟩
theorem blt_min2 (hp : X.pg p.cls p.con p.T = p) (hc : X.calm = true) (hr : X.A.units + 64 < cLine) (S : ∀ a o, F a = some o → SubH H a o) {a b : D} {v w : V} (ca : CV p F ι H v a) (cb : CV p F ι H w b) (ra : Rep p.K F ι v a) (rb : Rep p.K F ι w b) (ok : okAll [a, b] = true) {Q : VK} (k : ∀ z, Rep p.K F ι z (minD a [b]) → Q z H) : wC X (.builtin "min") [v, w] H Q := by
  intro pins s σ us I rv
  obtain ⟨u, u', rfl, ru, ru'⟩ := vals2 rv
  obtain ⟨as, bs, r1, r2, al, dp⟩ := two_data hp I S ok ca cb ru ru'
  refine min_pair (I.ok.hd hc) r1 r2 al (by omega) fun h' tk hk => ?_
  have e : minD a [b] = if PySem.W.dataLt b.py a.py then b else a := rfl
  rw [e] at k
  by_cases q : PySem.W.dataLt b.py a.py = true
  · rw [if_pos q] at k ⊢; exact ⟨w, H, I.kept hk, ru', k w rb⟩
  · rw [if_neg q] at k ⊢; exact ⟨v, H, I.kept hk, ru, k v ra⟩

theorem EachR : ∀ {vs : List V} {ds : List D} {us : List Value}, Reps p.K F ι vs ds → Vals vs us → PySem.W.EachIs (fun u (b : V × D) => RelV b.1 u) us (vs.zip ds)
  | _, _, _, .nil, .nil => .nil
  | _, _, _, .cons _ r, .cons q t => .cons q (EachR r t)
theorem EachD {h : Heap} : ∀ {vs : List V} {ds : List D} {us : List Value} {as : List Addr}, vs.length = ds.length → ReadsAll h us (pys ds) as → PySem.W.EachIs (fun u (b : V × D) => ∃ as, Reads h u b.2.py as) us (vs.zip ds)
  | [], [], _, _, _, r => by rw [pys] at r; cases r; exact .nil
  | [], _ :: _, _, _, e, _ => by simp at e
  | _ :: _, [], _, _, e, _ => by simp at e
  | v :: vs, d :: ds, _, _, e, r => by
    rw [pys] at r
    cases r with
    | cons a b => exact .cons ⟨_, a⟩ (EachD (by simpa using e) b)
theorem zip_snd {vs : List V} {ds : List D} (e : vs.length = ds.length) : (vs.zip ds).map (·.2) = ds := by
  rw [List.map_snd_zip]; omega
theorem reps_zip : ∀ {vs : List V} {ds : List D}, Reps p.K F ι vs ds → ∀ b ∈ vs.zip ds, Rep p.K F ι b.1 b.2
  | _, _, .nil, b, hb => by simp at hb
  | _, _, .cons a r, b, hb => by
    rw [List.zip_cons_cons] at hb
    rcases List.mem_cons.mp hb with rfl | hb
    · exact a
    · exact reps_zip r b hb
theorem reps_of : ∀ {bs : List (V × D)}, (∀ b ∈ bs, Rep p.K F ι b.1 b.2) → Reps p.K F ι (bs.map (·.1)) (bs.map (·.2))
  | [], _ => .nil
  | b :: bs, h => .cons (h b (by simp)) (reps_of fun c hc => h c (by simp [hc]))
theorem vals_of_each : ∀ {us : List Value} {bs : List (V × D)}, PySem.W.EachIs (fun u (b : V × D) => RelV b.1 u) us bs → Vals (bs.map (·.1)) us
  | _, _, .nil => .nil
  | _, _, .cons a r => .cons a (vals_of_each r)
theorem sortable_of {ds : List D} (h : okSort ds = true) : PySem.W.Sortable (pys ds) := by
  unfold okSort at h
  simp only [Bool.and_eq_true, Bool.or_eq_true, List.all_eq_true] at h
  obtain ⟨h1, _, h2⟩ := h
  obtain ⟨al, pn, _⟩ := alikeAll_of h1
  rw [pys_map]
  rcases h2 with h2 | h2
  · refine .inl fun x hx => ?_
    obtain ⟨a, ha, rfl⟩ := List.mem_map.mp hx
    have := h2 a ha
    split at this
    · rw [D.py, pys]; exact ⟨_, _, rfl⟩
    · rw [D.py, pys]; exact ⟨_, _, rfl⟩
    · cases this
  · refine .inr fun x hx => ?_
    obtain ⟨a, ha, rfl⟩ := List.mem_map.mp hx
    refine ⟨al.2 _ (by rw [pys_map]; exact List.mem_map_of_mem ha), fun xs e => ?_⟩
    have := h2 a ha
    have pa := plains_mem pn a ha
    cases a <;> simp_all [D.py, D.plain]
theorem blt_sorted (hp : X.pg p.cls p.con p.T = p) (hr : X.A.units + 64 < cLine) (S : ∀ a o, F a = some o → SubH H a o) {ds : List D} {v : V} (cv : CV p F ι H v (.lst ds)) (ok : okSort ds = true) {Q : VK} (k : ∀ c ws, H c = none → Reps p.K F ι ws (sortD ds) → Q (.ref c) (upd H c (.lst ws))) : wC X (.builtin "sorted") [v] H Q := by
  have hK : X.K = p.K := by rw [← hp]; rfl
  obtain ⟨a, vs, rfl, q1, q2⟩ := cv
  intro pins s σ us I rv
  rw [Vals.ref1 rv]
  obtain ⟨its, rv2, pl, hz⟩ := I.list (by rw [hK]; exact q1)
  have okA : okAll ds = true := by unfold okSort at ok; rw [Bool.and_eq_true] at ok; exact ok.1
  obtain ⟨al, pn, dp⟩ := alikeAll_of okA
  obtain ⟨as, ra⟩ := Dp.readsAll I _ _ its (by rw [hK]; exact dps_of S q2 pn) rv2
  have hm : (vs.zip ds).map (fun b => b.2.py) = pys ds := by
    rw [pys_map, show (fun b : V × D => b.2.py) = D.py ∘ (·.2) from rfl, ← List.map_map, zip_snd q2.length]
  have hlen : (vs.zip ds).length = vs.length := by rw [List.length_zip, ← q2.length]; omega
  refine PySem.W.sorted_data (bs := vs.zip ds) (enc := fun b => b.2.py) (R := fun u b => RelV b.1 u) pl.isList (EachR q2 rv2) (EachD q2.length ra) (by rw [hm]; exact al.1) (by rw [hm]; exact sortable_of ok) (by rw [hlen]; exact hz) (fun b hb => ?_) fun out ho eo => ?_
  · have h1 : b.2 ∈ ds := by rw [← zip_snd q2.length]; exact List.mem_map_of_mem hb
    have h2 : b.2.py.depth ≤ PyData.depthAll (pys ds) := by
      rw [pys_map]
      have : ∀ l : List D, b.2 ∈ l → b.2.py.depth ≤ PyData.depthAll (l.map D.py) := by
        intro l
        induction l with
        | nil => intro h; cases h
        | cons x l ih =>
          intro h
          rw [List.map_cons, PyData.depthAll]
          rcases List.mem_cons.mp h with e | h
          · rw [e]; exact Nat.le_max_left _ _
          · exact Nat.le_trans (ih h) (Nat.le_max_right _ _)
      exact this ds h1
    omega
  · have hs : ((vs.zip ds).mergeSort (PySem.W.dataLe false fun b : V × D => b.2.py)).map (·.2) = sortD ds := by
      unfold sortD
      rw [PySem.W.sort_maps (s := leD) (f := fun b : V × D => b.2), zip_snd q2.length]
      intro x _ y _
      rw [PySem.W.dataLe_eq]
      rfl
    obtain ⟨e, he⟩ := sortedAll_at s.heap its out.toArray
    have rl : Reps p.K F ι (((vs.zip ds).mergeSort (PySem.W.dataLe false fun b : V × D => b.2.py)).map (·.1)) (sortD ds) := by
      rw [← hs]
      exact reps_of fun b hb => reps_zip q2 b ((List.mergeSort_perm _ _).mem_iff.mp hb)
    have hz2 : (((vs.zip ds).mergeSort (PySem.W.dataLe false fun b : V × D => b.2.py)).map (·.1)).length ≤ sizeLine := by
      rw [List.length_map, List.length_mergeSort, hlen]; exact hz
    refine ⟨.ref (s.heap.objs.size + 1), _, I.laid (a := s.heap.objs.size + 1) (o := .lst _) (t' := s.toks) (fun b o q => sortedAll_old q) (Nat.le_succ _) ⟨hz2, out, e, vals_of_each eo, he⟩, rfl, ?_⟩
    exact k _ _ (I.hok.fresh (Nat.le_succ _)) rl
theorem blt_repr (hp : X.pg p.cls p.con p.T = p) (hr : X.A.units + 64 < cLine) (hg : X.A.guards = some []) (S : ∀ a o, F a = some o → SubH H a o) {v : V} (cv : CV p F ι H v d) (hf : d.fit = true) (hs : d.py.showable = true) (hz : d.py.shown.length ≤ sizeLine) {Q : VK} (k : Q (.str d.py.shown) H) : wC X (.builtin "repr") [v] H Q := by
  have hK : X.K = p.K := by rw [← hp]; rfl
  intro pins s σ us I rv
  obtain ⟨u, rfl, ru⟩ := vals1 rv
  obtain ⟨as, ra⟩ := Dp.reads I _ _ _ (by rw [hK]; exact cv.dp S (fit_plain hf)) ru
  have fin : ∀ (t : Tok) h' tk, (∀ b o, s.heap.get? b = some o → h'.get? b = some o) → EP X pins σ Q (.str d.py.shown t) { s with heap := h', toks := tk } := fun t h' tk hk => ⟨.str _, H, I.kept hk, ⟨t, rfl⟩, k⟩
  have hd := dep_fit hf
  cases d with
  | non => cases (show v = .non from cv); cases ru; rw [D.py, PyData.shown] at fin; exact PySem.P.repr_of_none (fin _ _ _ fun _ _ q => q)
  | bl b => cases (show v = .bl b from cv); cases ru; rw [D.py, PyData.shown] at fin; exact PySem.P.repr_of_bool (fin _ _ _ fun _ _ q => q)
  | int i => cases (show v = .int i from cv); obtain ⟨t, rfl⟩ := ru; rw [D.py, PyData.shown] at fin; rw [D.py, PyData.showable, decide_eq_true_eq] at hs; exact PySem.P.repr_of_int hs (fin _ _ _ fun _ _ q => q)
  | str x => cases (show v = .str x from cv); obtain ⟨t, rfl⟩ := ru; rw [D.py, PyData.shown] at fin hz; exact PySem.P.repr_of_str (fin _ _ _ fun _ _ q => q) hz
  | lst ds =>
    obtain ⟨a, vs, rfl, _⟩ := cv
    cases ru
    exact repr_of_reads' ra hs (fun h => absurd h (by rw [PyData.hasDict_of_canLay _ (lay_plain _ (fit_plain hf))]; decide)) hg (by omega) (fun _ _ q => q) (fun h' u tk hk => fin u h' tk hk) hz
  | tup ds =>
    obtain ⟨a, vs, rfl, _⟩ := cv
    cases ru
    exact repr_of_reads' ra hs (fun h => absurd h (by rw [PyData.hasDict_of_canLay _ (lay_plain _ (fit_plain hf))]; decide)) hg (by omega) (fun _ _ q => q) (fun h' u tk hk => fin u h' tk hk) hz
  | ctup ds =>
    obtain ⟨a, vs, rfl, _⟩ := cv
    cases ru
    exact repr_of_reads' ra hs (fun h => absurd h (by rw [PyData.hasDict_of_canLay _ (lay_plain _ (fit_plain hf))]; decide)) hg (by omega) (fun _ _ q => q) (fun h' u tk hk => fin u h' tk hk) hz
  | dK _ => exact absurd (fit_plain hf) (by rw [D.plain]; decide)
  | dT _ => exact absurd (fit_plain hf) (by rw [D.plain]; decide)
  | ref _ => exact absurd (fit_plain hf) (by rw [D.plain]; decide)
theorem blt_shw (hp : X.pg p.cls p.con p.T = p) (hr : X.A.units + 64 < cLine) (hg : X.A.guards = some []) (S : ∀ a o, F a = some o → SubH H a o) {v : V} (cv : CV p F ι H v d) (ok : okShw d = true) {Q : VK} (k : Q (.str d.pyr.shown) H) : wC X (.builtin "repr") [v] H Q := by
  have hK : X.K = p.K := by rw [← hp]; rfl
  unfold okShw at ok
  simp only [Bool.and_eq_true, decide_eq_true_eq] at ok
  obtain ⟨h1, h2, h3, h4, h5⟩ := ok
  intro pins s σ us I rv
  obtain ⟨u, rfl, ru⟩ := vals1 rv
  have fin : ∀ (t : Tok) h' tk, (∀ b o, s.heap.get? b = some o → h'.get? b = some o) → EP X pins σ Q (.str d.pyr.shown t) { s with heap := h', toks := tk } := fun t h' tk hk => ⟨.str _, H, I.kept hk, ⟨t, rfl⟩, k⟩
  cases d with
  | lst ds =>
    obtain ⟨a, vs, rfl, q1, q2⟩ := cv
    cases ru
    rw [D.pyr] at h3 h4 h5 fin
    rw [D.shw] at h2
    rw [PyData.showable] at h4
    rw [PyData.shown] at h5 fin
    rw [PyData.depth] at h3
    obtain ⟨its, rv, ⟨o, n, ho, hc, _, hd⟩, _⟩ := I.list (show SqL X.K H _ _ by rw [hK]; exact q1)
    obtain ⟨as, bs, r1, hb, hk⟩ := shown_reps hK S I q2 rv h2 h4 fun t ht => Nat.le_trans (listText_mem_le ht) h5
    have hna : a ∉ bs := not_mem_of_deeper (.list ho hc hd r1) (by simp only [PyData.depth]; omega) hb
    refine call_repr_slot (by omega) ⟨o, ho, hc⟩ PySem.F.slot_list_repr.toG ?_
    cases its with
    | nil =>
      have h4' : ReadsAll s.heap [] (pyrs ds) _ := r1
      cases h : pyrs ds with
      | cons _ _ => rw [h] at h4'; cases h4'
      | nil =>
        rw [h] at fin
        simp only [PyData.shownAll, listText_nil] at fin
        exact call_list_repr_empty ⟨o, ho, hc⟩ ho hd ⟨_, _, rfl, fin _ _ _ fun _ _ e => e⟩
    | cons x l =>
      exact call_list_reprK ho hc hd hna (by simpa using hk.length_eq) (fun i y e => hk.item i y (by simpa using e)) hg (fun b _ => Clear.nil b) (by show X.A.units + 1 + _ < cLine; omega) (fun _ _ e => e) (fun h' u tk hk => ⟨_, _, rfl, fin u h' tk hk⟩) h5
  | tup ds =>
    obtain ⟨a, vs, rfl, q1, q2⟩ := cv
    cases ru
    rw [D.pyr] at h3 h4 h5 fin
    rw [D.shw] at h2
    rw [PyData.showable] at h4
    rw [PyData.shown] at h5 fin
    rw [PyData.depth] at h3
    obtain ⟨its, rv, ⟨o, ho, hc, n, hd⟩, _⟩ := I.tuple (show SqT X.K H _ _ by rw [hK]; exact q1.sq)
    obtain ⟨as, bs, r1, hb, hk⟩ := shown_reps hK S I q2 rv h2 h4 fun t ht => Nat.le_trans (tupleText_mem_le ht) h5
    have hna : a ∉ bs := not_mem_of_deeper (.tuple ho hc hd r1) (by simp only [PyData.depth]; omega) hb
    refine call_repr_slot (by omega) ⟨o, ho, hc⟩ PySem.F.slot_tuple_repr ?_
    exact call_tuple_reprK ho hc hd hna hk hg (fun b _ => Clear.nil b) (by show X.A.units + 1 + _ < cLine; omega) (fun _ _ e => e) (fun h' u tk hk => ⟨_, _, rfl, fin u h' tk hk⟩) h5
  | ctup ds =>
    obtain ⟨a, vs, rfl, q1, q2⟩ := cv
    cases ru
    rw [D.pyr] at h3 h4 h5 fin
    rw [D.shw] at h2
    rw [PyData.showable] at h4
    rw [PyData.shown] at h5 fin
    rw [PyData.depth] at h3
    obtain ⟨its, rv, ⟨o, ho, hc, n, hd⟩, _⟩ := I.tuple (show SqT X.K H _ _ by rw [hK]; exact .inl q1)
    obtain ⟨as, bs, r1, hb, hk⟩ := shown_reps hK S I q2 rv h2 h4 fun t ht => Nat.le_trans (tupleText_mem_le ht) h5
    have hna : a ∉ bs := not_mem_of_deeper (.tuple ho hc hd r1) (by simp only [PyData.depth]; omega) hb
    refine call_repr_slot (by omega) ⟨o, ho, hc⟩ PySem.F.slot_tuple_repr ?_
    exact call_tuple_reprK ho hc hd hna hk hg (fun b _ => Clear.nil b) (by show X.A.units + 1 + _ < cLine; omega) (fun _ _ e => e) (fun h' u tk hk => ⟨_, _, rfl, fin u h' tk hk⟩) h5
  | _ => cases h1
/-! sorted of a dict -/
theorem intKs_ok {β : Type} : ∀ {es : List (Key × β)} {ks : List Int}, intKs es = some ks → es.map (·.1) = ks.map Sum.inl
  | [], ks, h => by cases h; rfl
  | (.inl i, d) :: r, ks, h => by
    obtain ⟨ls, e1, e2⟩ := Option.map_eq_some_iff.mp (show (intKs r).map (i :: ·) = some ks from h)
    subst e2
    rw [List.map_cons, List.map_cons, intKs_ok e1]
  | (.inr x, d) :: r, ks, h => by cases h
theorem strKs_ok {β : Type} : ∀ {es : List (Key × β)} {ks : List Str}, strKs es = some ks → es.map (·.1) = ks.map Sum.inr
  | [], ks, h => by cases h; rfl
  | (.inr i, d) :: r, ks, h => by
    obtain ⟨ls, e1, e2⟩ := Option.map_eq_some_iff.mp (show (strKs r).map (i :: ·) = some ks from h)
    subst e2
    rw [List.map_cons, List.map_cons, strKs_ok e1]
  | (.inl x, d) :: r, ks, h => by cases h
theorem sortI_eq {ys ks : List Int} (h : ys.Perm ks) (s : ys.Pairwise (· ≤ ·)) : ys = sortI ks := by
  have h2 : (sortI ks).Pairwise (fun a b => decide (a ≤ b) = true) := List.pairwise_mergeSort (fun a b c h1 h2 => by simp at *; omega) (fun a b => by simp; omega) ks
  refine List.Perm.eq_of_pairwise (le := fun a b : Int => a ≤ b) (fun a b _ _ h1 h2 => Int.le_antisymm h1 h2) s (h2.imp fun h => of_decide_eq_true h) (h.trans (List.mergeSort_perm _ _).symm)
theorem risingS_pw : ∀ {p : Str} {l : List Str}, risingS p l = true → (p :: l).Pairwise (fun a b => leSt a b = true)
  | p, [], _ => by simp
  | p, x :: r, h => by
    have h : (!ltCps x.cps.toList p.cps.toList && risingS x r) = true := h
    rw [Bool.and_eq_true] at h
    have ih := risingS_pw h.2
    have h1 : leSt p x = true := by unfold leSt; rw [← PyProof.Rows.ltCps_eq]; exact h.1
    refine List.Pairwise.cons (fun y hy => ?_) ih
    rcases List.mem_cons.mp hy with rfl | hy
    · exact h1
    · have h2 := List.rel_of_pairwise_cons ih hy
      unfold leSt at h1 h2 ⊢
      simp only [Bool.not_eq_true', decide_eq_false_iff_not, List.not_lt] at h1 h2 ⊢
      exact List.le_trans h1 h2
theorem str_ext {a b : Str} (h : a.cps.toList = b.cps.toList) : a = b := by
  cases a; cases b
  simp only at h
  rw [Array.toList_inj.mp h]
theorem sortT_eq {ys ks : List Str} (h : ys.Perm ks) (s : sortedS ys = true) : ys = sortT ks := by
  have s1 : ys.Pairwise (fun a b => leSt a b = true) := by
    cases ys with
    | nil => exact .nil
    | cons x r => exact risingS_pw s
  have h2 : (sortT ks).Pairwise (fun a b => leSt a b = true) := List.pairwise_mergeSort (fun a b c h1 h2 => by
    unfold leSt at h1 h2 ⊢
    simp only [Bool.not_eq_true', decide_eq_false_iff_not, List.not_lt] at h1 h2 ⊢
    exact List.le_trans h1 h2) (fun a b => by
    unfold leSt
    by_cases c : b.cps.toList < a.cps.toList
    · have : ¬ a.cps.toList < b.cps.toList := List.lt_asymm c
      simp [c, this]
    · simp [c]) ks
  refine List.Perm.eq_of_pairwise (le := fun a b : Str => leSt a b = true) (fun a b _ _ h1 h2 => ?_) s1 h2 (h.trans (List.mergeSort_perm _ _).symm)
  unfold leSt at h1 h2
  simp only [Bool.not_eq_true', decide_eq_false_iff_not, List.not_lt] at h1 h2
  exact str_ext (List.le_antisymm h1 h2)
theorem reps_ints {K : PySem.W.Frag} : ∀ ks : List Int, Reps K F ι (ks.map V.int) (ks.map D.int)
  | [] => .nil
  | k :: ks => .cons (.int k) (reps_ints ks)
theorem reps_strs {K : PySem.W.Frag} : ∀ ks : List Str, Reps K F ι (ks.map V.str) (ks.map D.str)
  | [] => .nil
  | k :: ks => .cons (.str k) (reps_strs ks)
theorem blt_sortK (hp : X.pg p.cls p.con p.T = p) (hc : X.calm = true) {es : List (Key × D)} {v : V} (cv : CV p F ι H v (.dK es)) (e : sortKD es = some d) {Q : VK} (k : ∀ c ws ds, d = .lst ds → H c = none → Reps p.K F ι ws ds → Q (.ref c) (upd H c (.lst ws))) : wC X (.builtin "sorted") [v] H Q := by
  obtain ⟨a, kvs, rfl, q1, q2, q3⟩ := cv
  unfold sortKD at e
  split at e
  · rename_i ks hk
    split at e
    · rename_i hz
      cases e
      refine wC_of (call_sortedDI hc) ⟨a, kvs, ks, rfl, q1, q2.trans (intKs_ok hk), hz, fun ys c h1 h2 h3 => ?_⟩
      rw [sortI_eq h1 h2]
      exact k c _ _ rfl h3 (reps_ints _)
    · cases e
  · split at e
    · rename_i ks hk
      split at e
      · rename_i hz
        cases e
        refine wC_of (call_sortedD hc) ⟨a, kvs, ks, rfl, q1, q2.trans (strKs_ok hk), hz, fun ys c h1 h2 h3 => ?_⟩
        rw [sortT_eq h1 h2]
        exact k c _ _ rfl h3 (reps_strs _)
      · cases e
    · cases e
theorem rep_of_cv {v : V} (cv : CV p F ι H v d) (h : (∃ x, d = .str x) ∨ ∃ i, d = .int i) : Rep p.K F ι v d := by
  rcases h with ⟨x, rfl⟩ | ⟨i, rfl⟩
  · cases (show v = .str x from cv); exact .str _
  · cases (show v = .int i from cv); exact .int _

def isCon : D → Bool
  | .lst _ => true | .dK _ => true | .dT _ => true
  | _ => false
/-- an operand: what is seen of it, and that it is frozen unless it is a container -/
structure CW (p : Pg) (F : Hp) (ι : List Addr) (H : Hp) (v : V) (d : D) : Prop where
  cv : CV p F ι H v d
  rep : isCon d = false → Rep p.K F ι v d
abbrev CWs (p : Pg) (F : Hp) (ι : List Addr) (H : Hp) : List V → List D → Prop := Paired (CW p F ι H)
theorem cw_of {Pr : Hp} {ρ : Env'} {S : Store} {α : Nat → Addr} {σ : L2.St} {v : V} {h : Hd} (R : Rel p Pr ρ S F ι α σ H) (r : HRep p F ι α v h) (e : cont ρ S h = some d) : CW p F ι H v d := by
  refine ⟨cv_of R r e, fun hc => ?_⟩
  cases h with
  | slot i =>
    simp only [cont] at e
    split at e
    · rename_i u hu
      cases e
      obtain ⟨_, _, _, q, _⟩ := R.own i _ hu
      cases d <;> simp_all [CRep, isCon]
    · cases e
  | val u =>
    by_cases hr : ∃ n, u = .ref n
    · obtain ⟨n, rfl⟩ := hr
      simp only [cont] at e
      split at e
      · rename_i c hc'
        cases e
        obtain ⟨b, hb, _, q⟩ := R.wd.at hc'
        have q : CRep p.K F ι H b d := q
        cases d <;> simp_all [CRep, isCon]
      · rename_i c hc'
        cases e
        obtain ⟨b, hb, _, q⟩ := R.wd.at hc'
        have q : LRep p.K F ι H b d := q
        cases d <;> simp_all [LRep, isCon]
      · cases e
    · have hd : ∀ n, u ≠ .ref n := fun n q => hr ⟨n, q⟩
      rw [cont_val hd] at e
      cases e
      exact r
theorem CWs.one {vs : List V} {e : D} (r : CWs p F ι H vs [e]) : ∃ v, vs = [v] ∧ CW p F ι H v e := by
  cases r with
  | cons a b => cases b; exact ⟨_, rfl, a⟩
theorem CWs.two {vs : List V} {e f : D} (r : CWs p F ι H vs [e, f]) : ∃ v w, vs = [v, w] ∧ CW p F ι H v e ∧ CW p F ι H w f := by
  cases r with
  | cons a b => cases b with
    | cons b c => cases c; exact ⟨_, _, rfl, a, b⟩
theorem listOf_lst (hp : X.pg p.cls p.con p.T = p) (S : ∀ a o, F a = some o → SubH H a o) {ds : List D} {v : V} (cv : CV p F ι H v (.lst ds)) {Q : VK} (k : ∀ z F' H', Grow F H F' H' → Rep p.K F' ι z (.lst ds) → Q z H') : wC X (.type "list") [v] H Q := by
  have hK : X.K = p.K := by rw [← hp]; rfl
  obtain ⟨a, vs, rfl, q1, q2⟩ := cv
  exact wC_of call_list_of ⟨a, vs, rfl, .inl (by rw [hK]; exact q1), fun l hl => newL S q2 hl k⟩
theorem listOf_tup (hp : X.pg p.cls p.con p.T = p) (S : ∀ a o, F a = some o → SubH H a o) {ds : List D} {v : V} (cv : CV p F ι H v (.tup ds)) {Q : VK} (k : ∀ z F' H', Grow F H F' H' → Rep p.K F' ι z (.lst ds) → Q z H') : wC X (.type "list") [v] H Q := by
  have hK : X.K = p.K := by rw [← hp]; rfl
  obtain ⟨a, vs, rfl, q1, q2⟩ := cv
  exact wC_of call_list_of ⟨a, vs, rfl, .inr (q1.sq), fun l hl => newL S q2 hl k⟩
theorem blt_ok (b : Bi) (hp : X.pg p.cls p.con p.T = p) (hc : X.calm = true) (hr : X.A.units + 64 < cLine) (hg : X.A.guards = some []) (S : ∀ a o, F a = some o → SubH H a o) {ds : List D} {vs : List V} (r : CWs p F ι H vs ds) (e : bltD b ds = some d) {Q : VK} (k : ∀ z F' H', Grow F H F' H' → Rep p.K F' ι z d → Q z H') : wC X b.fn vs H Q := by
  have hK : X.K = p.K := by rw [← hp]; rfl
  have k0 : ∀ z, Rep p.K F ι z d → Q z H := fun z q => k z F H .refl q
  unfold bltD at e
  split at e
  · obtain ⟨v, rfl, c⟩ := r.one
    cases c.cv
    cases e
    exact wC_of call_abs ⟨_, rfl, k0 _ (.int _)⟩
  · obtain ⟨v, rfl, c⟩ := r.one
    unfold lenD at e
    split at e
    · cases e
      obtain ⟨a, ws, rfl, q1, q2⟩ := c.cv
      exact wC_of call_len_seq ⟨a, ws, rfl, .inl (by rw [hK]; exact q1), by rw [q2.length]; exact k0 _ (.int _)⟩
    · cases e
      obtain ⟨a, ws, rfl, q1, q2⟩ := c.cv
      exact wC_of call_len_seq ⟨a, ws, rfl, .inr (q1.sq), by rw [q2.length]; exact k0 _ (.int _)⟩
    · split at e
      · rename_i hz
        cases e
        cases c.cv
        exact wC_of call_len_str ⟨_, rfl, hz, k0 _ (.int _)⟩
      · cases e
    · rename_i es
      cases e
      obtain ⟨a, kvs, rfl, q1, q2, q3⟩ := c.cv
      intro pins s σ us I rv
      rw [Vals.ref1 rv]
      have hl : kvs.length = es.length := RKV.len (K := p.K) (F := F) (ι := ι) ⟨q2, q3⟩
      exact d_len I q1 fun t s' I' => ⟨.int kvs.length, H, I', ⟨t, rfl⟩, by rw [hl]; exact k0 _ (.int _)⟩
    · cases e
      obtain ⟨a, ws, rfl, q1, q2⟩ := c.cv
      exact wC_of call_len_seq ⟨a, ws, rfl, .inr (.inl q1), by rw [q2.length]; exact k0 _ (.int _)⟩
    · cases e
  · obtain ⟨v, w, rfl, c1, c2⟩ := r.two
    cases c1.cv; cases c2.cv; cases e
    exact wC_of (call_max2 hc) ⟨_, _, rfl, k0 _ (.int _)⟩
  · obtain ⟨v, w, rfl, c1, c2⟩ := r.two
    cases c1.cv; cases c2.cv; cases e
    exact wC_of (call_min2 hc) ⟨_, _, rfl, k0 _ (.int _)⟩
  · split at e
    · rename_i ok
      cases e
      obtain ⟨v, w, rfl, c1, c2⟩ := r.two
      exact blt_max2 hp hc hr S c1.cv c2.cv (c1.rep rfl) (c2.rep rfl) ok k0
    · cases e
  · split at e
    · rename_i ok
      cases e
      obtain ⟨v, w, rfl, c1, c2⟩ := r.two
      exact blt_min2 hp hc hr S c1.cv c2.cv (c1.rep rfl) (c2.rep rfl) ok k0
    · cases e
  · split at e
    · rename_i ok
      cases e
      obtain ⟨v, w, rfl, c1, c2⟩ := r.two
      exact blt_max2 hp hc hr S c1.cv c2.cv (c1.rep rfl) (c2.rep rfl) ok k0
    · cases e
  · split at e
    · rename_i ok
      cases e
      obtain ⟨v, w, rfl, c1, c2⟩ := r.two
      exact blt_max2 hp hc hr S c1.cv c2.cv (c1.rep rfl) (c2.rep rfl) ok k0
    · cases e
  · split at e
    · rename_i ok
      cases e
      obtain ⟨v, w, rfl, c1, c2⟩ := r.two
      exact blt_max2 hp hc hr S c1.cv c2.cv (c1.rep rfl) (c2.rep rfl) ok k0
    · cases e
  · split at e
    · rename_i ok
      cases e
      obtain ⟨v, w, rfl, c1, c2⟩ := r.two
      exact blt_max2 hp hc hr S c1.cv c2.cv (c1.rep rfl) (c2.rep rfl) ok k0
    · cases e
  · split at e
    · rename_i ok
      cases e
      obtain ⟨v, w, rfl, c1, c2⟩ := r.two
      exact blt_min2 hp hc hr S c1.cv c2.cv (c1.rep rfl) (c2.rep rfl) ok k0
    · cases e
  · split at e
    · rename_i ok
      cases e
      rw [Bool.and_eq_true] at ok
      obtain ⟨v, rfl, c⟩ := r.one
      exact blt_max hp hc hr S c.cv ok.1 ok.2 k0
    · cases e
  · split at e
    · rename_i ok
      cases e
      rw [Bool.and_eq_true] at ok
      obtain ⟨v, rfl, c⟩ := r.one
      exact blt_min hp hc hr S c.cv ok.1 ok.2 k0
    · cases e
  · unfold sortedD at e
    split at e
    · rename_i ok
      cases e
      obtain ⟨v, rfl, c⟩ := r.one
      exact blt_sorted hp hr S c.cv ok fun c ws hc q => newL S q hc k
    · cases e
  · obtain ⟨v, rfl, c⟩ := r.one
    exact blt_sortK hp hc c.cv e fun c ws ds hd hc q => by subst hd; exact newL S q hc k
  · obtain ⟨v, rfl, c⟩ := r.one
    exact listOf_lst hp S c.cv (by cases e; exact k)
  · obtain ⟨v, rfl, c⟩ := r.one
    exact listOf_tup hp S c.cv (by cases e; exact k)
  · obtain ⟨v, rfl, c⟩ := r.one
    cases c.cv; cases e
    exact wC_of call_int1 (.inl ⟨_, rfl, k0 _ (.int _)⟩)
  · obtain ⟨v, rfl, c⟩ := r.one
    cases c.cv; cases e
    exact wC_of call_int1 (.inr ⟨_, rfl, k0 _ (.int _)⟩)
  · split at e
    · rename_i hl
      obtain ⟨n, hn, hd⟩ := Option.map_eq_some_iff.mp e
      obtain ⟨v, rfl, c⟩ := r.one
      cases c.cv
      subst hd
      exact wC_of call_int_str ⟨_, _, rfl, hn, hl, k0 _ (.int _)⟩
    · cases e
  · split at e
    · rename_i hl
      cases e
      obtain ⟨v, rfl, c⟩ := r.one
      cases c.cv
      exact wC_of call_str_int ⟨_, rfl, hl, k0 _ (.str _)⟩
    · cases e
  · split at e
    · rename_i hl
      cases e
      obtain ⟨v, rfl, c⟩ := r.one
      cases c.cv
      exact wC_of call_ord ⟨_, rfl, hl, k0 _ (.int _)⟩
    · cases e
  · obtain ⟨v, rfl, c⟩ := r.one
    cases e
    obtain ⟨a, vs, rfl, q1, q2⟩ := c.cv
    exact wC_of call_tuple_of ⟨a, vs, rfl, .inl ⟨by rw [hK]; exact q1, fun l hl => newT S q2 hl k⟩⟩
  · split at e
    · rename_i h
      cases e
      obtain ⟨v, rfl, c⟩ := r.one
      exact blt_repr hp hr hg S c.cv h.1 h.2.1 h.2.2 (k0 _ (.str _))
    · unfold reprD' at e
      split at e
      · rename_i h
        cases e
        obtain ⟨v, rfl, c⟩ := r.one
        exact blt_shw hp hr hg S c.cv h (k0 _ (.str _))
      · cases e
  · cases e
theorem blt_new (b : Bi) (hb : b = .list ∨ b = .sorted) (hp : X.pg p.cls p.con p.T = p) (hc : X.calm = true) (hr : X.A.units + 64 < cLine) (S : ∀ a o, F a = some o → SubH H a o) {ds : List D} {vs : List V} (r : CWs p F ι H vs ds) (e : bltD b ds = some d) {Q : VK}
    (k : ∀ c ws es, d = .lst es → H c = none → Reps p.K F ι ws es → Q (.ref c) (upd H c (.lst ws))) : wC X b.fn vs H Q := by
  have hK : X.K = p.K := by rw [← hp]; rfl
  unfold bltD at e
  split at e <;> try (rcases hb with hb | hb <;> cases hb)
  · unfold sortedD at e
    split at e
    · rename_i ok
      cases e
      obtain ⟨v, rfl, c⟩ := r.one
      exact blt_sorted hp hr S c.cv ok fun c ws hc q => k c ws _ rfl hc q
    · cases e
  · obtain ⟨v, rfl, c⟩ := r.one
    exact blt_sortK hp hc c.cv e k
  · obtain ⟨v, rfl, c⟩ := r.one
    obtain ⟨a, vs, rfl, q1, q2⟩ := c.cv
    cases e
    exact wC_of call_list_of ⟨a, vs, rfl, .inl (by rw [hK]; exact q1), fun l hl => k _ _ _ rfl hl q2⟩
  · obtain ⟨v, rfl, c⟩ := r.one
    obtain ⟨a, vs, rfl, q1, q2⟩ := c.cv
    cases e
    exact wC_of call_list_of ⟨a, vs, rfl, .inr (q1.sq), fun l hl => k _ _ _ rfl hl q2⟩
  all_goals cases e
end
end Z

set_option Elab.async false
set_option linter.all false
set_option maxRecDepth 100000
set_option maxHeartbeats 4000000
namespace Z
open PySem PySem.Spec PyProof.Rows L2

section
variable {p : Pg} {N : List Str} {sc : Scope} {fn : Str → Bool} {k : Nat} {X : Cx} {G : Fns} {ρ : Env'} {S : Store} {e ea eb ec : Expr} {pos : Pos} {a b c : Ex}
theorem Good.units (g : Good p N sc fn k X) : X.A.units + 64 < cLine := g.room.units
theorem Good.K (g : Good p N sc fn k X) : X.K = p.K := by rw [← g.pg]; rfl
/-- what a name's place holds -/
theorem fe_var {i : Nat} {x : Str} (g : Good p N sc fn k X) (hN : N[i]? = some x) (hv : Vis sc x) (h1 : (x == ("__debug__" : Str)) = false) (h2 : (x == ("__classdict__" : Str)) = false) : FE p X ρ S (.Name x pos) (evE G (.var i) ρ S) := by
  intro Pr F ι α σ H R d S' e Q q
  rw [evE] at e
  split at e
  · rename_i u hu
    cases e
    obtain ⟨v, e1, e2⟩ := R.fz i _ hu
    exact wE_of (pe_var (i := i) (by rw [g.hN]; exact hN) (by rw [g.sc]; exact hv) h1 h2) ⟨v, e1, q v F ι H R (LeH.refl _) (LeA.refl _) e2⟩
  · cases e
theorem fh_var {i : Nat} {x : Str} (g : Good p N sc fn k X) (hN : N[i]? = some x) (hv : Vis sc x) (h1 : (x == ("__debug__" : Str)) = false) (h2 : (x == ("__classdict__" : Str)) = false) : FH p X ρ S (.Name x pos) (hOf (.var i) ρ S (evE G (.var i) ρ S)) := by
  intro Pr F ι α σ H R d S' e Q q
  simp only [hOf] at e
  have pe := pe_var (X := X) (pos := pos) (i := i) (by rw [g.hN]; exact hN) (by rw [g.sc]; exact hv) h1 h2
  split at e
  · rename_i u hu
    cases e
    obtain ⟨e1, e2⟩ := R.own i _ hu
    exact wE_of pe ⟨_, e1, q _ F ι H R (LeH.refl _) (LeA.refl _) (show HRep p F ι α (.ref (α i)) (.slot i) from rfl)⟩
  · rename_i u hu
    cases e
    obtain ⟨v, e1, e2⟩ := R.fz i _ hu
    exact wE_of pe ⟨v, e1, q v F ι H R (LeH.refl _) (LeA.refl _) e2⟩
  · cases e
theorem fh_of (hn : ∀ i, a ≠ .var i) (h : FE p X ρ S e (evE G a ρ S)) : FH p X ρ S e (hOf a ρ S (evE G a ρ S)) := by
  intro Pr F ι α σ H R d S' e' Q q
  have : hOf a ρ S (evE G a ρ S) = (evE G a ρ S).map fun x => (Hd.val x.1, x.2) := by
    cases a <;> first | rfl | exact absurd rfl (hn _)
  rw [this] at e'
  obtain ⟨⟨d', S2⟩, h1, h2⟩ := Option.map_eq_some_iff.mp e'
  cases h2
  exact h Pr F ι α σ H R _ _ h1 Q fun v F' ι' H' R' l1 l2 r => q v F' ι' H' R' l1 l2 r
theorem fe_cst {c : Cst} {j : Nat} : ∀ {kc : Const}, (match c, kc with
    | .non, .none => true | .bl b, .bool b' => decide (b = b') | .int i, .int i' => decide (i = i') | .str x, .str y => decide (x = y)
    | _, _ => false) = true → FE p X ρ S (.Constant kc j pos) (evE G (.cst c) ρ S) := by
  intro kc hk Pr F ι α σ H R d S' e Q q
  rw [evE] at e
  cases e
  cases c <;> cases kc <;> simp at hk
  · exact wE_of pe_non (q _ F ι H R (LeH.refl _) (LeA.refl _) .non)
  · subst hk; exact wE_of pe_bl (q _ F ι H R (LeH.refl _) (LeA.refl _) (.bl _))
  · subst hk; exact wE_of pe_int (q _ F ι H R (LeH.refl _) (LeA.refl _) (.int _))
  · subst hk; exact wE_of pe_str (q _ F ι H R (LeH.refl _) (LeA.refl _) (.str _))
theorem fe_glb {x : Str} {gc : GC} (g : Good p N sc fn k X) (hg : sc.names.lookup x = some .globalImplicit) (hc : p.con x = some gc.d) (hd : (x == ("__debug__" : Str)) = false) : FE p X ρ S (.Name x pos) (evE G (.glb x gc) ρ S) := by
  intro Pr F ι α σ H R d S' e Q q
  rw [evE] at e
  cases e
  obtain ⟨u, v, h1, h2, h3⟩ := R.wd.con x _ hc
  have hm : X.mg x = some u := by rw [← h1, ← g.pg]; rfl
  exact wE_of (pe_glob (by show X.env.scope.names.lookup x = _; rw [g.sc]; exact hg) hm h2 hd) (q _ F ι H R (LeH.refl _) (LeA.refl _) h3)

/-- two operands, then what they hold at the end -/
theorem two_h {ra : Option (Hd × Store)} {rb : Store → Option (Hd × Store)} (ha : FH p X ρ S ea ra) (hb : ∀ S, FH p X ρ S eb (rb S)) {Pr F ι α σ H} (R : Rel p Pr ρ S F ι α σ H) {h1 h2 : Hd} {S1 S2 : Store} (e1 : ra = some (h1, S1)) (e2 : rb S1 = some (h2, S2)) {r : R2} {Q : VK}
    (q : ∀ x y F' ι' H', Rel p Pr ρ S2 F' ι' α σ H' → LeH F F' → LeA ι ι' → HRep p F' ι' α x h1 → HRep p F' ι' α y h2 → r x y H' Q) : tOp r (wE X ea) (wE X eb) σ H Q := by
  refine ha Pr F ι α σ H R _ _ e1 _ fun x F1 ι1 H1 R1 l1 m1 r1 => ?_
  refine hb S1 Pr F1 ι1 α σ H1 R1 _ _ e2 _ fun y F2 ι2 H2 R2 l2 m2 r2 => ?_
  exact q x y F2 ι2 H2 R2 (l1.trans l2) (m1.trans m2) (r1.le l2 m2) r2
theorem fe_bin {o : Operator} (g : Good p N sc fn k X) (ha : FH p X ρ S ea (hOf a ρ S (evE G a ρ S))) (hb : ∀ S, FH p X ρ S eb (hOf b ρ S (evE G b ρ S))) : FE p X ρ S (.BinOp ea o eb pos) (evE G (.bin o a b) ρ S) := by
  intro Pr F ι α σ H R d S' e Q q
  rw [evE] at e
  obtain ⟨⟨h1, S1⟩, e1, e⟩ := Option.bind_eq_some_iff.mp e
  obtain ⟨⟨h2, S2⟩, e2, e⟩ := Option.bind_eq_some_iff.mp e
  obtain ⟨u, e3, e⟩ := Option.bind_eq_some_iff.mp e
  obtain ⟨v, e4, e⟩ := Option.bind_eq_some_iff.mp e
  obtain ⟨d', e5, e6⟩ := Option.map_eq_some_iff.mp e
  cases e6
  refine wE_of (pe_op wR_ok peW peW) (two_h (rb := fun S => hOf b ρ S (evE G b ρ S)) ha hb R e1 e2 fun x y F' ι' H' R' l m r1 r2 => ?_)
  have c1 := cw_of R' r1 e3
  have c2 := cw_of R' r2 e4
  refine bin_ok o g.pg R'.wd.sub c1.cv c2.cv ?_ ?_ e5 fun z F2 H2 gr rz => q z F2 ι' H2 (R'.grow gr) (l.trans gr.f) m rz
  · cases u <;> first | exact .inl (c1.rep rfl) | exact .inr (fun _ h => nomatch h)
  · cases v <;> first | exact .inl (c2.rep rfl) | exact .inr (fun _ h => nomatch h)

theorem rd_cmp {o : CmpOp} (g : Good p N sc fn k X) (ha : FH p X ρ S ea (hOf a ρ S (evE G a ρ S))) (hb : ∀ S, FH p X ρ S eb (hOf b ρ S (evE G b ρ S))) {Pr F ι α σ H} (R : Rel p Pr ρ S F ι α σ H) {d : D} {S' : Store} (e : evE G (.cmp o a b) ρ S = some (d, S')) {Q : VK}
    (q : ∀ r F' ι' H', d = .bl r → Rel p Pr ρ S' F' ι' α σ H' → LeH F F' → LeA ι ι' → Q (.bl r) H') : tOp (wR X (compareOp o)) (wE X ea) (wE X eb) σ H Q := by
  rw [evE] at e
  obtain ⟨⟨h1, S1⟩, e1, e⟩ := Option.bind_eq_some_iff.mp e
  obtain ⟨⟨h2, S2⟩, e2, e⟩ := Option.bind_eq_some_iff.mp e
  obtain ⟨u, e3, e⟩ := Option.bind_eq_some_iff.mp e
  obtain ⟨v, e4, e⟩ := Option.bind_eq_some_iff.mp e
  obtain ⟨d', e5, e6⟩ := Option.map_eq_some_iff.mp e
  cases e6
  refine two_h (rb := fun S => hOf b ρ S (evE G b ρ S)) ha hb R e1 e2 fun x y F' ι' H' R' l m r1 r2 => ?_
  exact cmp_ok o g.pg g.units R'.wd.sub (cv_of R' r1 e3) (cv_of R' r2 e4) e5 (q _ F' ι' H' rfl R' l m)
theorem fe_cmp {o : CmpOp} (g : Good p N sc fn k X) (ha : FH p X ρ S ea (hOf a ρ S (evE G a ρ S))) (hb : ∀ S, FH p X ρ S eb (hOf b ρ S (evE G b ρ S))) (hm : behindInMarks o eb = false) : FE p X ρ S (.Compare ea [o] [eb] pos) (evE G (.cmp o a b) ρ S) := by
  intro Pr F ι α σ H R d S' e Q q
  exact wE_of (pe_cmpR wR_ok peW peW hm) (rd_cmp g ha hb R e fun r F' ι' H' ed R' l m => q _ F' ι' H' R' l m (by rw [ed]; exact .bl r))
theorem ft_cmp {o : CmpOp} (g : Good p N sc fn k X) (ha : FH p X ρ S ea (hOf a ρ S (evE G a ρ S))) (hb : ∀ S, FH p X ρ S eb (hOf b ρ S (evE G b ρ S))) (hm : behindInMarks o eb = false) : FT p X ρ S (.Compare ea [o] [eb] pos) (evE G (.cmp o a b) ρ S) := by
  intro Pr F ι α σ H R d S' e Q q
  exact wT_of (pt_cmpR wR_ok peW peW hm) (rd_cmp g ha hb R e fun r F' ι' H' ed R' l m => ⟨r, rfl, by cases ed; exact q F' ι' H' R' l m⟩)
theorem rd_chn {o o' : CmpOp} (g : Good p N sc fn k X) (ha : FH p X ρ S ea (hOf a ρ S (evE G a ρ S))) (hb : ∀ S, FH p X ρ S eb (hOf b ρ S (evE G b ρ S))) (hc : ∀ S, FH p X ρ S ec (hOf c ρ S (evE G c ρ S))) {Pr F ι α σ H} (R : Rel p Pr ρ S F ι α σ H) {d : D} {S' : Store} (e : evE G (.chn o o' a b c) ρ S = some (d, S')) {Q : VK}
    (q : ∀ r F' ι' H', d = .bl r → Rel p Pr ρ S' F' ι' α σ H' → LeH F F' → LeA ι ι' → Q (.bl r) H') : tChain (wR X (compareOp o)) (wR X (compareOp o')) (wE X ea) (wE X eb) (wE X ec) σ H Q := by
  rw [evE] at e
  obtain ⟨⟨h1, S1⟩, e1, e⟩ := Option.bind_eq_some_iff.mp e
  obtain ⟨⟨h2, S2⟩, e2, e⟩ := Option.bind_eq_some_iff.mp e
  obtain ⟨u, e3, e⟩ := Option.bind_eq_some_iff.mp e
  obtain ⟨v, e4, e⟩ := Option.bind_eq_some_iff.mp e
  obtain ⟨r, e5, e⟩ := Option.bind_eq_some_iff.mp e
  refine ha Pr F ι α σ H R _ _ e1 _ fun x F1 ι1 H1 R1 l1 m1 r1 => ?_
  refine hb S1 Pr F1 ι1 α σ H1 R1 _ _ e2 _ fun y F2 ι2 H2 R2 l2 m2 r2 => ?_
  refine cmp_ok o g.pg g.units R2.wd.sub (cv_of R2 (r1.le l2 m2) e3) (cv_of R2 r2 e4) e5 ⟨r, rfl, ?_⟩
  by_cases hr : r = true
  · rw [if_pos hr] at e ⊢
    obtain ⟨⟨h3, S3⟩, e6, e⟩ := Option.bind_eq_some_iff.mp e
    obtain ⟨v', e7, e⟩ := Option.bind_eq_some_iff.mp e
    obtain ⟨w, e8, e⟩ := Option.bind_eq_some_iff.mp e
    obtain ⟨r', e9, e10⟩ := Option.map_eq_some_iff.mp e
    cases e10
    refine hc S2 Pr F2 ι2 α σ H2 R2 _ _ e6 _ fun z F3 ι3 H3 R3 l3 m3 r3 => ?_
    exact cmp_ok o' g.pg g.units R3.wd.sub (cv_of R3 (r2.le l3 m3) e7) (cv_of R3 r3 e8) e9 (q _ F3 ι3 H3 rfl R3 ((l1.trans l2).trans l3) ((m1.trans m2).trans m3))
  · rw [if_neg hr] at e ⊢
    cases e
    exact q _ F2 ι2 H2 rfl R2 (l1.trans l2) (m1.trans m2)
theorem fe_chn {o o' : CmpOp} (g : Good p N sc fn k X) (ha : FH p X ρ S ea (hOf a ρ S (evE G a ρ S))) (hb : ∀ S, FH p X ρ S eb (hOf b ρ S (evE G b ρ S))) (hc : ∀ S, FH p X ρ S ec (hOf c ρ S (evE G c ρ S))) (hm : behindInMarks o' ec = false) :
    FE p X ρ S (.Compare ea [o, o'] [eb, ec] pos) (evE G (.chn o o' a b c) ρ S) := by
  intro Pr F ι α σ H R d S' e Q q
  exact wE_of (pe_chain wR_ok wR_ok peW peW peW hm) (rd_chn g ha hb hc R e fun r F' ι' H' ed R' l m => q _ F' ι' H' R' l m (by rw [ed]; exact .bl r))
theorem ft_chn {o o' : CmpOp} (g : Good p N sc fn k X) (ha : FH p X ρ S ea (hOf a ρ S (evE G a ρ S))) (hb : ∀ S, FH p X ρ S eb (hOf b ρ S (evE G b ρ S))) (hc : ∀ S, FH p X ρ S ec (hOf c ρ S (evE G c ρ S))) (hm : behindInMarks o' ec = false) :
    FT p X ρ S (.Compare ea [o, o'] [eb, ec] pos) (evE G (.chn o o' a b c) ρ S) := by
  intro Pr F ι α σ H R d S' e Q q
  exact wT_of (pt_chain wR_ok wR_ok peW peW peW hm) (rd_chn g ha hb hc R e fun r F' ι' H' ed R' l m => ⟨r, rfl, by cases ed; exact q F' ι' H' R' l m⟩)
theorem iso_ok (o : CmpOp) (ho : o = .Is ∨ o = .IsNot) {F H : Hp} {ι : List Addr} {x y : V} {u v d : D} (rx : Rep p.K F ι x u) (ry : Rep p.K F ι y v) (e : isoD u (decide (o = .IsNot)) v = some d) {Q : VK} (q : ∀ r, d = .bl r → Q (.bl r) H) : wR X (compareOp o) x y H Q := by
  unfold isoD at e
  split at e
  · cases ry
    cases e
    have hx : u.isNon = decide (x = .non) := by cases rx <;> simp [D.isNon]
    rcases ho with rfl | rfl
    · refine wR_of op_isN ⟨rfl, ?_⟩
      have := q _ rfl
      rw [hx] at this; simpa using this
    · refine wR_of op_notN ⟨rfl, ?_⟩
      have := q _ rfl
      rw [hx] at this; simpa using this
  · rename_i b; split at e
    · rename_i c; cases e
      cases rx; cases ry
      have hb : (c == b) = decide (c = b) := by cases b <;> cases c <;> rfl
      rcases ho with rfl | rfl
      · refine wR_of op_isBl ⟨c, b, rfl, rfl, ?_⟩
        have := q _ rfl
        rw [hb] at this; simpa using this
      · refine wR_of op_notBl ⟨c, b, rfl, rfl, ?_⟩
        have := q _ rfl
        rw [hb] at this; simpa using this
    · cases e
  · cases e
theorem rd_iso {o : CmpOp} (ho : o = .Is ∨ o = .IsNot) {n : Bool} (hn : n = decide (o = .IsNot)) (ha : FE p X ρ S ea (evE G a ρ S)) (hb : ∀ S, FE p X ρ S eb (evE G b ρ S)) {Pr F ι α σ H} (R : Rel p Pr ρ S F ι α σ H) {d : D} {S' : Store} (e : evE G (.iso n a b) ρ S = some (d, S')) {Q : VK}
    (q : ∀ r F' ι' H', d = .bl r → Rel p Pr ρ S' F' ι' α σ H' → LeH F F' → LeA ι ι' → Q (.bl r) H') : tOp (wR X (compareOp o)) (wE X ea) (wE X eb) σ H Q := by
  subst hn
  rw [evE] at e
  obtain ⟨⟨u, S1⟩, e1, e⟩ := Option.bind_eq_some_iff.mp e
  obtain ⟨⟨v, S2⟩, e2, e⟩ := Option.bind_eq_some_iff.mp e
  obtain ⟨d', e5, e6⟩ := Option.map_eq_some_iff.mp e
  cases e6
  refine ha Pr F ι α σ H R _ _ e1 _ fun x F1 ι1 H1 R1 l1 m1 r1 => ?_
  refine hb S1 Pr F1 ι1 α σ H1 R1 _ _ e2 _ fun y F2 ι2 H2 R2 l2 m2 r2 => ?_
  exact iso_ok o ho (r1.le l2 m2) r2 e5 fun r hr => q r F2 ι2 H2 hr R2 (l1.trans l2) (m1.trans m2)
theorem fe_iso {o : CmpOp} (ho : o = .Is ∨ o = .IsNot) {n : Bool} (hn : n = decide (o = .IsNot)) (ha : FE p X ρ S ea (evE G a ρ S)) (hb : ∀ S, FE p X ρ S eb (evE G b ρ S)) (hm : behindInMarks o eb = false) : FE p X ρ S (.Compare ea [o] [eb] pos) (evE G (.iso n a b) ρ S) := by
  intro Pr F ι α σ H R d S' e Q q
  exact wE_of (pe_cmpR wR_ok peW peW hm) (rd_iso ho hn ha hb R e fun r F' ι' H' ed R' l m => q _ F' ι' H' R' l m (by rw [ed]; exact .bl r))
theorem ft_iso {o : CmpOp} (ho : o = .Is ∨ o = .IsNot) {n : Bool} (hn : n = decide (o = .IsNot)) (ha : FE p X ρ S ea (evE G a ρ S)) (hb : ∀ S, FE p X ρ S eb (evE G b ρ S)) (hm : behindInMarks o eb = false) : FT p X ρ S (.Compare ea [o] [eb] pos) (evE G (.iso n a b) ρ S) := by
  intro Pr F ι α σ H R d S' e Q q
  exact wT_of (pt_cmpR wR_ok peW peW hm) (rd_iso ho hn ha hb R e fun r F' ι' H' ed R' l m => ⟨r, rfl, by cases ed; exact q F' ι' H' R' l m⟩)
/-- a value as a test -/
theorem ft_val {r : Option (D × Store)} (h : FE p X ρ S e r) (he : ∀ whole, isTrue e X.env whole = (do let v ← whole; standAt e.pos; holding [v] (truthy v))) : FT p X ρ S e r := by
  intro Pr F ι α σ H R d S' e' Q q
  exact wT_of (pt_val peW he) (h Pr F ι α σ H R _ _ e' _ fun v F' ι' H' R' l m rv => by cases rv; exact ⟨d, rfl, q F' ι' H' R' l m⟩)
theorem blOf_eq {d : D} {c : Bool} (h : blOf d = some c) : d = .bl c := by cases d <;> simp_all [blOf]
theorem intOf_eq {d : D} {c : Int} (h : intOf d = some c) : d = .int c := by cases d <;> simp_all [intOf]
theorem fe_neg (ha : FE p X ρ S ea (evE G a ρ S)) : FE p X ρ S (.UnaryOp .USub ea pos) (evE G (.neg a) ρ S) := by
  intro Pr F ι α σ H R d S' e Q q
  rw [evE] at e
  obtain ⟨⟨u, S1⟩, e1, e⟩ := Option.bind_eq_some_iff.mp e
  obtain ⟨i, e2, e3⟩ := Option.map_eq_some_iff.mp e
  cases e3
  cases intOf_eq e2
  exact wE_of (pe_un un_neg peW) (ha Pr F ι α σ H R _ _ e1 _ fun v F' ι' H' R' l m rv => by cases rv; exact ⟨_, rfl, q _ F' ι' H' R' l m (.int _)⟩)
theorem fe_not (ha : FE p X ρ S ea (evE G a ρ S)) : FE p X ρ S (.UnaryOp .Not ea pos) (evE G (.not a) ρ S) := by
  intro Pr F ι α σ H R d S' e Q q
  rw [evE] at e
  obtain ⟨⟨u, S1⟩, e1, e⟩ := Option.bind_eq_some_iff.mp e
  obtain ⟨i, e2, e3⟩ := Option.map_eq_some_iff.mp e
  cases e3
  cases blOf_eq e2
  exact wE_of (pe_not peW) (ha Pr F ι α σ H R _ _ e1 _ fun v F' ι' H' R' l m rv => by cases rv; exact ⟨_, rfl, q _ F' ι' H' R' l m (.bl _)⟩)
theorem ft_not (ha : FT p X ρ S ea (evE G a ρ S)) : FT p X ρ S (.UnaryOp .Not ea pos) (evE G (.not a) ρ S) := by
  intro Pr F ι α σ H R d S' e Q q
  rw [evE] at e
  obtain ⟨⟨u, S1⟩, e1, e⟩ := Option.bind_eq_some_iff.mp e
  obtain ⟨i, e2, e3⟩ := Option.map_eq_some_iff.mp e
  cases e3
  cases blOf_eq e2
  exact wT_of (pt_not ptW) (ha Pr F ι α σ H R _ _ e1 _ fun F' ι' H' R' l m => q F' ι' H' R' l m)
section
variable {es : List Expr}
/-- the last of a chain of and, or -/
theorem fe_one {op : BoolOp} {r : Option (D × Store)} (h : FE p X ρ S e r) : FE p X ρ S (.BoolOp op [e] pos) r := by
  intro Pr F ι α σ H R d S' e' Q q
  exact wE_of (pe_one peW) (h Pr F ι α σ H R _ _ e' _ q)
theorem fe_and (ha : FE p X ρ S ea (evE G a ρ S)) (hb : ∀ S, FE p X ρ S (.BoolOp .And (eb :: es) pos) (evE G b ρ S)) : FE p X ρ S (.BoolOp .And (ea :: eb :: es) pos) (evE G (.and a b) ρ S) := by
  intro Pr F ι α σ H R d S' e Q q
  rw [evE] at e
  obtain ⟨⟨u, S1⟩, e1, e⟩ := Option.bind_eq_some_iff.mp e
  obtain ⟨i, e2, e3⟩ := Option.bind_eq_some_iff.mp e
  cases blOf_eq e2
  refine wE_of (pe_and peW peW) (ha Pr F ι α σ H R _ _ e1 _ fun v F' ι' H' R' l m rv => ?_)
  cases rv
  refine ⟨i, rfl, ?_⟩
  by_cases hi : i = true
  · rw [if_pos hi] at e3 ⊢
    exact hb S1 Pr F' ι' α σ H' R' _ _ e3 _ fun w F2 ι2 H2 R2 l2 m2 rw' => q w F2 ι2 H2 R2 (l.trans l2) (m.trans m2) rw'
  · rw [if_neg hi] at e3 ⊢
    cases e3
    exact q _ F' ι' H' R' l m (.bl _)
theorem fe_or (ha : FE p X ρ S ea (evE G a ρ S)) (hb : ∀ S, FE p X ρ S (.BoolOp .Or (eb :: es) pos) (evE G b ρ S)) : FE p X ρ S (.BoolOp .Or (ea :: eb :: es) pos) (evE G (.or a b) ρ S) := by
  intro Pr F ι α σ H R d S' e Q q
  rw [evE] at e
  obtain ⟨⟨u, S1⟩, e1, e⟩ := Option.bind_eq_some_iff.mp e
  obtain ⟨i, e2, e3⟩ := Option.bind_eq_some_iff.mp e
  cases blOf_eq e2
  refine wE_of (pe_or peW peW) (ha Pr F ι α σ H R _ _ e1 _ fun v F' ι' H' R' l m rv => ?_)
  cases rv
  refine ⟨i, rfl, ?_⟩
  by_cases hi : i = true
  · rw [if_pos hi] at e3 ⊢
    cases e3
    exact q _ F' ι' H' R' l m (.bl _)
  · rw [if_neg hi] at e3 ⊢
    exact hb S1 Pr F' ι' α σ H' R' _ _ e3 _ fun w F2 ι2 H2 R2 l2 m2 rw' => q w F2 ι2 H2 R2 (l.trans l2) (m.trans m2) rw'
theorem pwOf {op : BoolOp} {t : TT} (h : PT X (.BoolOp op es pos) t) : PW X (.BoolOp op es pos) t := ⟨fun wh pins s σ H Q I q => by
  have := h.run pins s σ H Q I q
  simp only [PySem.isTrue] at this ⊢
  exact this⟩
theorem ft_one {op : BoolOp} {r : Option (D × Store)} (h : FT p X ρ S e r) : FT p X ρ S (.BoolOp op [e] pos) r := by
  intro Pr F ι α σ H R d S' e' Q q
  cases op with
  | And => exact wT_of (pw_and1 ptW).pt (h Pr F ι α σ H R _ _ e' _ q)
  | Or => exact wT_of (pw_or1 ptW).pt (h Pr F ι α σ H R _ _ e' _ q)
theorem ft_and (ha : FT p X ρ S ea (evE G a ρ S)) (hb : ∀ S, FT p X ρ S (.BoolOp .And (eb :: es) pos) (evE G b ρ S)) : FT p X ρ S (.BoolOp .And (ea :: eb :: es) pos) (evE G (.and a b) ρ S) := by
  intro Pr F ι α σ H R d S' e Q q
  rw [evE] at e
  obtain ⟨⟨u, S1⟩, e1, e⟩ := Option.bind_eq_some_iff.mp e
  obtain ⟨i, e2, e3⟩ := Option.bind_eq_some_iff.mp e
  cases blOf_eq e2
  refine wT_of (pw_and ptW (pwOf ptW)).pt (ha Pr F ι α σ H R _ _ e1 _ fun F' ι' H' R' l m => ?_)
  by_cases hi : i = true
  · rw [if_pos hi] at e3 ⊢
    exact hb S1 Pr F' ι' α σ H' R' _ _ e3 _ fun F2 ι2 H2 R2 l2 m2 => q F2 ι2 H2 R2 (l.trans l2) (m.trans m2)
  · rw [if_neg hi] at e3 ⊢
    cases e3
    exact q F' ι' H' R' l m
theorem ft_or (ha : FT p X ρ S ea (evE G a ρ S)) (hb : ∀ S, FT p X ρ S (.BoolOp .Or (eb :: es) pos) (evE G b ρ S)) : FT p X ρ S (.BoolOp .Or (ea :: eb :: es) pos) (evE G (.or a b) ρ S) := by
  intro Pr F ι α σ H R d S' e Q q
  rw [evE] at e
  obtain ⟨⟨u, S1⟩, e1, e⟩ := Option.bind_eq_some_iff.mp e
  obtain ⟨i, e2, e3⟩ := Option.bind_eq_some_iff.mp e
  cases blOf_eq e2
  refine wT_of (pw_or ptW (pwOf ptW)).pt (ha Pr F ι α σ H R _ _ e1 _ fun F' ι' H' R' l m => ?_)
  by_cases hi : i = true
  · rw [if_pos hi] at e3 ⊢
    cases e3
    exact q F' ι' H' R' l m
  · rw [if_neg hi] at e3 ⊢
    exact hb S1 Pr F' ι' α σ H' R' _ _ e3 _ fun F2 ι2 H2 R2 l2 m2 => q F2 ι2 H2 R2 (l.trans l2) (m.trans m2)
end
theorem fe_ife (hc : FT p X ρ S ec (evE G c ρ S)) (ha : ∀ S, FE p X ρ S ea (evE G a ρ S)) (hb : ∀ S, FE p X ρ S eb (evE G b ρ S)) : FE p X ρ S (.IfExp ec ea eb pos) (evE G (.ife c a b) ρ S) := by
  intro Pr F ι α σ H R d S' e Q q
  rw [evE] at e
  obtain ⟨⟨u, S1⟩, e1, e⟩ := Option.bind_eq_some_iff.mp e
  obtain ⟨i, e2, e3⟩ := Option.bind_eq_some_iff.mp e
  cases blOf_eq e2
  refine wE_of (pe_ifExp ptW peW peW) (hc Pr F ι α σ H R _ _ e1 _ fun F' ι' H' R' l m => ?_)
  by_cases hi : i = true
  · rw [if_pos hi] at e3 ⊢
    exact ha S1 Pr F' ι' α σ H' R' _ _ e3 _ fun w F2 ι2 H2 R2 l2 m2 rw' => q w F2 ι2 H2 R2 (l.trans l2) (m.trans m2) rw'
  · rw [if_neg hi] at e3 ⊢
    exact hb S1 Pr F' ι' α σ H' R' _ _ e3 _ fun w F2 ι2 H2 R2 l2 m2 rw' => q w F2 ι2 H2 R2 (l.trans l2) (m.trans m2) rw'

/-! ## argument lists, displays -/
def isStar : Expr → Bool
  | .Starred _ _ => true
  | _ => false
theorem star_cons {e : Expr} {es : List Expr} {env : Env} (h : isStar e = false) : starEach (e :: es) env = (false, eval e env) :: starEach es env := by
  cases e <;> first | rfl | cases h
theorem fa_nil : FA p X ρ S [] (evA G .nil ρ S) := by
  intro Pr F ι α σ H R ds S' e Q q
  rw [evA] at e
  cases e
  exact wA_of pa_nil (q [] F ι H R (LeH.refl _) (LeA.refl _) .nil)
theorem fa_cons {es : List Expr} {as : Ar} (hs : isStar e = false) (ha : FE p X ρ S e (evE G a ρ S)) (hr : ∀ S, FA p X ρ S es (evA G as ρ S)) : FA p X ρ S (e :: es) (evA G (.cons a as) ρ S) := by
  intro Pr F ι α σ H R ds S' e' Q q
  rw [evA] at e'
  obtain ⟨⟨u, S1⟩, e1, e'⟩ := Option.bind_eq_some_iff.mp e'
  obtain ⟨⟨us, S2⟩, e2, e3⟩ := Option.map_eq_some_iff.mp e'
  cases e3
  refine wA_of (pa_cons peW paW (star_cons hs)) (ha Pr F ι α σ H R _ _ e1 _ fun v F' ι' H' R' l m rv => ?_)
  exact hr S1 Pr F' ι' α σ H' R' _ _ e2 _ fun vs F2 ι2 H2 R2 l2 m2 rs => q (v :: vs) F2 ι2 H2 R2 (l.trans l2) (m.trans m2) (.cons (rv.le l2 m2) rs)
theorem fhs_nil : FHs p X ρ S [] (evH G .nil ρ S) := by
  intro Pr F ι α σ H R ds S' e Q q
  rw [evH] at e
  cases e
  exact wA_of pa_nil (q [] F ι H R (LeH.refl _) (LeA.refl _) .nil)
theorem HReps.le {F F' : Hp} {ι ι' : List Addr} {α : Nat → Addr} {vs : List V} {hs : List Hd} (l : LeH F F') (m : LeA ι ι') (r : HReps p F ι α vs hs) : HReps p F' ι' α vs hs := Paired.mapP r fun _ _ q => q.le l m
theorem fhs_cons {es : List Expr} {as : Ar} (hs : isStar e = false) (ha : FH p X ρ S e (hOf a ρ S (evE G a ρ S))) (hr : ∀ S, FHs p X ρ S es (evH G as ρ S)) : FHs p X ρ S (e :: es) (evH G (.cons a as) ρ S) := by
  intro Pr F ι α σ H R ds S' e' Q q
  rw [evH] at e'
  obtain ⟨⟨u, S1⟩, e1, e'⟩ := Option.bind_eq_some_iff.mp e'
  obtain ⟨⟨us, S2⟩, e2, e3⟩ := Option.map_eq_some_iff.mp e'
  cases e3
  refine wA_of (pa_cons peW paW (star_cons hs)) (ha Pr F ι α σ H R _ _ e1 _ fun v F' ι' H' R' l m rv => ?_)
  exact hr S1 Pr F' ι' α σ H' R' _ _ e2 _ fun vs F2 ι2 H2 R2 l2 m2 rs => q (v :: vs) F2 ι2 H2 R2 (l.trans l2) (m.trans m2) (.cons (rv.le l2 m2) rs)
theorem fe_tup {es : List Expr} {as : Ar} {x1 : Nat} (ha : FA p X ρ S es (evA G as ρ S)) : FE p X ρ S (.Tuple es x1 pos) (evE G (.tup as) ρ S) := by
  intro Pr F ι α σ H R d S' e Q q
  rw [evE] at e
  obtain ⟨⟨us, S1⟩, e1, e⟩ := Option.bind_eq_some_iff.mp e
  split at e
  · rename_i hz
    cases e
    refine wE_of (pe_tup paW) (ha Pr F ι α σ H R _ _ e1 _ fun vs F' ι' H' R' l m rs => ⟨by rw [rs.length]; exact hz, fun c hc => ?_⟩)
    exact newT R'.wd.sub rs hc fun z F2 H2 gr rz => q z F2 ι' H2 (R'.grow gr) (l.trans gr.f) m rz
  · cases e
theorem fe_list {es : List Expr} {as : Ar} (ha : FA p X ρ S es (evA G as ρ S)) : FE p X ρ S (.List es pos) (evE G (.list as) ρ S) := by
  intro Pr F ι α σ H R d S' e Q q
  rw [evE] at e
  obtain ⟨⟨us, S1⟩, e1, e⟩ := Option.bind_eq_some_iff.mp e
  split at e
  · rename_i hz
    cases e
    refine wE_of (pe_lst paW) (ha Pr F ι α σ H R _ _ e1 _ fun vs F' ι' H' R' l m rs => ⟨by rw [rs.length]; exact hz, fun c hc => ?_⟩)
    exact newL R'.wd.sub rs hc fun z F2 H2 gr rz => q z F2 ι' H2 (R'.grow gr) (l.trans gr.f) m rz
  · cases e
theorem fe_idx (g : Good p N sc fn k X) (hb0 : PlainIx eb) (ha : FH p X ρ S ea (hOf a ρ S (evE G a ρ S))) (hb : ∀ S, FE p X ρ S eb (evE G b ρ S)) : FE p X ρ S (.Subscript ea eb pos) (evE G (.idx a b) ρ S) := by
  intro Pr F ι α σ H R d S' e Q q
  rw [evE] at e
  obtain ⟨⟨h1, S1⟩, e1, e⟩ := Option.bind_eq_some_iff.mp e
  obtain ⟨⟨i, S2⟩, e2, e⟩ := Option.bind_eq_some_iff.mp e
  obtain ⟨u, e3, e⟩ := Option.bind_eq_some_iff.mp e
  obtain ⟨d', e5, e6⟩ := Option.map_eq_some_iff.mp e
  cases e6
  refine wE_of (pe_wIx peW peW) (ha Pr F ι α σ H R _ _ e1 _ fun x F1 ι1 H1 R1 l1 m1 r1 => ?_)
  refine hb S1 Pr F1 ι1 α σ H1 R1 _ _ e2 _ fun y F2 ι2 H2 R2 l2 m2 r2 => ?_
  exact idx_ok g.pg g.units hb0 R2.wd.sub (cv_of R2 (r1.le l2 m2) e3) r2 e5 fun z rz => q z F2 ι2 H2 R2 (l1.trans l2) (m1.trans m2) rz
theorem plain_ix (h : (match eb with | .Slice _ _ _ _ => false | _ => true) = true) : PlainIx eb := by
  intro o i
  cases eb <;> first | rfl | cases h
theorem cws_of {Pr F ι α σ H} {S1 : Store} (R : Rel p Pr ρ S1 F ι α σ H) : ∀ {vs : List V} {hs : List Hd} {us : List D}, HReps p F ι α vs hs → hs.mapM (cont ρ S1) = some us → CWs p F ι H vs us := by
  intro vs hs us r
  induction r generalizing us with
  | nil => intro h; simp at h; subst h; exact .nil
  | cons a r ih =>
    intro h
    rw [List.mapM_cons] at h
    obtain ⟨y, h1, h⟩ := Option.bind_eq_some_iff.mp h
    obtain ⟨ys, h2, h⟩ := Option.bind_eq_some_iff.mp h
    cases h
    exact .cons (cw_of R a h1) (ih h2)
theorem fe_blt {es : List Expr} {as : Ar} {bi : Bi} {x : Str} {ps : Pos} (g : Good p N sc fn k X) (hx : x = bi.name) (hg : sc.names.lookup x = some .globalImplicit) (hm : p.mg x = none) (hb : bi ≠ .setLen) (h0 : isStar e = false) (hpl : (es.all fun e => !isStar e) = true) (ha : FHs p X ρ S (e :: es) (evH G as ρ S)) :
    FE p X ρ S (.Call (.Name x ps) (e :: es) [] pos) (evE G (.blt bi as) ρ S) := by
  intro Pr F ι α σ H R d S' e' Q q
  rw [evE] at e'
  obtain ⟨⟨hs, S1⟩, e1, e'⟩ := Option.bind_eq_some_iff.mp e'
  obtain ⟨us, e2, e'⟩ := Option.bind_eq_some_iff.mp e'
  obtain ⟨d', e5, e6⟩ := Option.map_eq_some_iff.mp e'
  cases e6
  have hG : Gl X x := by show X.env.scope.names.lookup x = _; rw [g.sc]; exact hg
  have hM : X.mg x = none := by rw [← hm, ← g.pg]; rfl
  have any0 : ∀ l : List Expr, (l.all fun e => !isStar e) = true → (backTo pos (starEach l X.env)).any (·.1) = false := by
    intro l
    induction l with
    | nil => intro _; rfl
    | cons y l ih =>
      intro h
      rw [List.all_cons, Bool.and_eq_true, Bool.not_eq_true'] at h
      rw [star_cons h.1]
      show (false || (backTo pos (starEach l X.env)).any (·.1)) = false
      rw [ih h.2]; rfl
  have rd : tCB (wC X bi.fn) (wA X (e :: es)) σ H Q := by
    refine ha Pr F ι α σ H R _ _ e1 _ fun vs F' ι' H' R' l m rs => ?_
    exact blt_ok bi g.pg g.calm g.units g.grd R'.wd.sub (cws_of R' rs e2) e5 fun z F2 H2 gr rz => q z F2 ι' H2 (R'.grow gr) (l.trans gr.f) m rz
  subst hx
  cases bi <;> first
    | exact absurd rfl hb
    | exact wE_of (pe_callB wC_ok hG hM (by decide +kernel) paW (by decide) (by decide) (star_cons h0) (any0 _ hpl)) rd
    | exact wE_of (pe_callTy wC_ok hG hM (by decide +kernel) paW (by decide) (by decide) (star_cons h0) (any0 _ hpl)) rd
end
end Z

set_option Elab.async false
set_option linter.all false
set_option maxRecDepth 100000
set_option maxHeartbeats 4000000
namespace Z
open PySem PySem.Spec PyProof.Rows L2

/-! # new containers, changed containers -/
structure Fr (p : Pg) (Pr : Hp) (ρ : Env') (F : Hp) (ι : List Addr) (α : Nat → Addr) (H : Hp) (a : Addr) (d : D) : Prop where
  rep : CRep p.K F ι H a d
  nf : F a = none
  ni : a ∉ ι
  np : Pr a = none
  no : ∀ j e, ρ[j]? = some (.own e) → α j ≠ a
/-- a new container comes, known to nobody -/
def FN (p : Pg) (X : Cx) (ρ : Env') (S : Store) (e : Expr) (r : Option (D × Store)) : Prop :=
  ∀ Pr F ι α σ H, Rel p Pr ρ S F ι α σ H → ∀ d S', r = some (d, S') → ∀ Q : VK,
    (∀ a F' ι' H', Rel p Pr ρ S' F' ι' α σ H' → LeH F F' → LeA ι ι' → Fr p Pr ρ F' ι' α H' a d → Q (.ref a) H') → wE X e σ H Q
section
variable {p : Pg} {Pr : Hp} {ρ : Env'} {S : Store} {F : Hp} {ι : List Addr} {α : Nat → Addr} {σ : L2.St} {H : Hp} {a : Addr} {d : D} {o : HO}
theorem CRep.rep {K : PySem.W.Frag} (r : CRep K F ι H a d) : ∃ o, H a = some o ∧ ∀ F' : Hp, LeH F F' → F' a = some o → Rep K F' ι (.ref a) d := by
  cases d <;> simp only [CRep] at r
  · obtain ⟨vs, e, q⟩ := r; exact ⟨_, e, fun F' l h => .lst h (q.le l (LeA.refl _))⟩
  · obtain ⟨vs, e, k, q⟩ := r; exact ⟨_, e, fun F' l h => .dK h k (q.le l (LeA.refl _))⟩
  · obtain ⟨vs, e, k, q⟩ := r; exact ⟨_, e, fun F' l h => .dT h k (q.le l (LeA.refl _))⟩
/-- from now on it stays as it is -/
theorem Rel.freeze (R : Rel p Pr ρ S F ι α σ H) (f : Fr p Pr ρ F ι α H a d) : ∃ F', Rel p Pr ρ S F' ι α σ H ∧ LeH F F' ∧ Rep p.K F' ι (.ref a) d := by
  obtain ⟨o, ha, hr⟩ := f.rep.rep
  have l : LeH F (upd F a o) := LeH.upd f.nf
  refine ⟨upd F a o, ?_, l, hr _ l upd_same⟩
  exact {
    wd := {
      sub := fun b u e => by
        by_cases hb : b = a
        · subst hb; rw [upd_same] at e; cases e; exact .inl ha
        · rw [upd_ne hb] at e; exact R.wd.sub b u e
      con := fun x d h => let ⟨u, v, h1, h2, h3⟩ := R.wd.con x d h; ⟨u, v, h1, h2, h3.le l (LeA.refl _)⟩
      len := R.wd.len
      tab := ⟨R.wd.tab.t, fun b ps e => by
        by_cases hb : b = a
        · subst hb; rw [upd_same] at e; cases e
          obtain ⟨_, z1, z2⟩ := f.rep.nte
          rw [ha] at z1; cases z1; exact z2 trivial
        · rw [upd_ne hb] at e; exact R.wd.tab.f b ps e, R.wd.tab.p⟩
      nd := R.wd.nd
      cell := fun n c b h1 h2 => by
        obtain ⟨q1, q2⟩ := R.wd.cell n c b h1 h2
        refine ⟨?_, q2.le l (LeA.refl _) rfl⟩
        rw [upd_ne (fun z => f.ni (by rw [← z]; exact List.mem_of_getElem? h2))]; exact q1
      prot := fun b u h => by
        obtain ⟨q1, q2, q3⟩ := R.wd.prot b u h
        refine ⟨q1, q2.imp (fun q => ?_) id, q3⟩
        rw [upd_ne (fun z => by rw [z, f.np] at h; cases h)]; exact q }
    fz := fun i d h => let ⟨v, h1, h2⟩ := R.fz i d h; ⟨v, h1, h2.le l (LeA.refl _)⟩
    own := fun i d h => by
      obtain ⟨h1, h2, h3, h4, h5⟩ := R.own i d h
      exact ⟨h1, by rw [upd_ne (f.no i d h)]; exact h2, h3, h4.le l (LeA.refl _) rfl, h5⟩
    lng := R.lng
    inj := R.inj }
/-- laid just now -/
theorem Rel.alloc (R : Rel p Pr ρ S F ι α σ H) (h : H a = none) (c : ∀ G : Hp, G a = some o → CRep p.K F ι G a d) : Rel p Pr ρ S F ι α σ (upd H a o) ∧ Fr p Pr ρ F ι α (upd H a o) a d := by
  have hF := R.wd.fresh h
  refine ⟨R.grow ⟨LeH.upd h, LeH.refl _, fun b u e => .inl e, fun b ps e => e⟩, c _ upd_same, hF, R.wd.notin h, ?_, fun j e hj z => ?_⟩
  · cases q : Pr a with
    | none => rfl
    | some u => rw [(R.wd.prot a u q).1] at h; cases h
  · obtain ⟨_, _, _, h4, _⟩ := R.own j e hj
    obtain ⟨u, t, _⟩ := h4.there
    rw [z, h] at t; cases t
/-- among the store's things -/
theorem Rel.addC {c : Cell} (R : Rel p Pr ρ S F ι α σ H) (frep : CellRep p F ι H a c) (fnf : F a = none) (fni : a ∉ ι) (fnp : Pr a = none) (fno : ∀ j e, ρ[j]? = some (.own e) → α j ≠ a) : Rel p Pr ρ (S ++ [c]) F (ι ++ [a]) α σ H ∧ (ι ++ [a])[S.length]? = some a := by
  have l : LeA ι (ι ++ [a]) := LeA.app _ _
  have at_ : (ι ++ [a])[S.length]? = some a := by rw [← R.wd.len, List.getElem?_append_right (Nat.le_refl _)]; simp
  have old : ∀ {n : Nat} {b : Addr}, (ι ++ [a])[n]? = some b → ι[n]? = some b ∨ (n = S.length ∧ b = a) := fun {n b} h => by
    by_cases hn : n < ι.length
    · rw [List.getElem?_append_left hn] at h; exact .inl h
    · have : n = S.length := by
        have := (List.getElem?_eq_some_iff.mp h).1
        rw [List.length_append, List.length_singleton, R.wd.len] at this
        rw [R.wd.len] at hn
        omega
      subst this
      rw [at_] at h; cases h; exact .inr ⟨rfl, rfl⟩
  refine ⟨{
    wd := {
      sub := R.wd.sub
      con := fun x d h => let ⟨u, v, h1, h2, h3⟩ := R.wd.con x d h; ⟨u, v, h1, h2, h3.le (LeH.refl _) l⟩
      len := by rw [List.length_append, List.length_append, R.wd.len]; rfl
      tab := R.wd.tab
      nd := List.nodup_append.mpr ⟨R.wd.nd, List.nodup_cons.mpr ⟨List.not_mem_nil, List.nodup_nil⟩, fun x hx y hy z => by
        have : y = a := by simpa using hy
        rw [z, this] at hx; exact fni hx⟩
      cell := fun n c b h1 h2 => by
        rcases old h2 with h2 | ⟨rfl, rfl⟩
        · have hl : n < S.length := by rw [← R.wd.len]; exact (List.getElem?_eq_some_iff.mp h2).1
          rw [List.getElem?_append_left hl] at h1
          obtain ⟨q1, q2⟩ := R.wd.cell n c b h1 h2
          exact ⟨q1, q2.le (LeH.refl _) l rfl⟩
        · rw [List.getElem?_append_right (Nat.le_refl _)] at h1
          simp at h1; subst h1
          exact ⟨fnf, frep.le (LeH.refl _) l rfl⟩
      prot := fun b u h => by
        obtain ⟨q1, q2, q3⟩ := R.wd.prot b u h
        refine ⟨q1, q2, fun n c h2 h1 => ?_⟩
        rcases old h2 with h2 | ⟨rfl, rfl⟩
        · have hl : n < S.length := by rw [← R.wd.len]; exact (List.getElem?_eq_some_iff.mp h2).1
          rw [List.getElem?_append_left hl] at h1
          exact q3 n c h2 h1
        · rw [fnp] at h; cases h }
    fz := fun i d h => let ⟨v, h1, h2⟩ := R.fz i d h; ⟨v, h1, h2.le (LeH.refl _) l⟩
    own := fun i d h => by
      obtain ⟨h1, h2, h3, h4, h5⟩ := R.own i d h
      refine ⟨h1, h2, fun z => ?_, h4.le (LeH.refl _) l rfl, h5⟩
      rcases List.mem_append.mp z with z | z
      · exact h3 z
      · exact fno i d h (by simpa using z)
    lng := R.lng
    inj := R.inj }, at_⟩
theorem Rel.addCell (R : Rel p Pr ρ S F ι α σ H) (f : Fr p Pr ρ F ι α H a d) : Rel p Pr ρ (S ++ [.con d]) F (ι ++ [a]) α σ H ∧ (ι ++ [a])[S.length]? = some a := R.addC (c := .con d) f.rep f.nf f.ni f.np f.no
/-- a thing of the store changed -/
theorem Rel.put {n : Nat} {c : Cell} (R : Rel p Pr ρ S F ι α σ H) (hn : ι[n]? = some a) (hp : Pr a = none) (hc : CellRep p F ι (upd H a o) a c) : Rel p Pr ρ (S.set n c) F ι α σ (upd H a o) := by
  have hl : n < S.length := by rw [← R.wd.len]; exact (List.getElem?_eq_some_iff.mp hn).1
  obtain ⟨f1, _⟩ := R.wd.cell n S[n] a (List.getElem?_eq_getElem hl) hn
  have ne : ∀ {m : Nat} {b : Addr}, ι[m]? = some b → m ≠ n → b ≠ a := fun {m b} h z e => by
    subst e
    obtain ⟨l1, e1⟩ := List.getElem?_eq_some_iff.mp h
    obtain ⟨l2, e2⟩ := List.getElem?_eq_some_iff.mp hn
    have pw := List.pairwise_iff_getElem.mp R.wd.nd
    rcases Nat.lt_or_gt_of_ne z with y | y
    · exact pw _ _ l1 l2 y (e1.trans e2.symm)
    · exact pw _ _ l2 l1 y (e2.trans e1.symm)
  have mem : a ∈ ι := List.mem_of_getElem? hn
  exact {
    wd := {
      sub := fun b u e => by
        have hb : b ≠ a := fun z => by rw [z, f1] at e; cases e
        rcases R.wd.sub b u e with h | ⟨k, ob, h⟩
        · exact .inl (by rw [upd_ne hb]; exact h)
        · exact .inr ⟨k, ob, by rw [upd_ne hb]; exact h⟩
      con := R.wd.con
      len := by rw [List.length_set]; exact R.wd.len
      tab := by
        obtain ⟨_, cr⟩ := R.wd.cell n S[n] a (List.getElem?_eq_getElem hl) hn
        obtain ⟨_, q1, q2⟩ := cr.nte
        exact ⟨tabs_upd R.wd.tab.t q1 q2, R.wd.tab.f, R.wd.tab.p⟩
      nd := R.wd.nd
      cell := fun m c' b h1 h2 => by
        by_cases hm : m = n
        · subst hm
          rw [hn] at h2; cases h2
          rw [List.getElem?_set_self hl] at h1; cases h1
          exact ⟨f1, hc⟩
        · rw [List.getElem?_set_ne (fun z => hm z.symm)] at h1
          obtain ⟨q1, q2⟩ := R.wd.cell m c' b h1 h2
          exact ⟨q1, q2.le (LeH.refl _) (LeA.refl _) (upd_ne (ne h2 hm))⟩
      prot := fun b u h => by
        obtain ⟨q1, q2, q3⟩ := R.wd.prot b u h
        have hb : b ≠ a := fun z => by rw [z, hp] at h; cases h
        refine ⟨by rw [upd_ne hb]; exact q1, q2, fun m c' h2 h1 => ?_⟩
        have hm : m ≠ n := fun z => by subst z; rw [hn] at h2; cases h2; exact hb rfl
        rw [List.getElem?_set_ne (fun z => hm z.symm)] at h1
        exact q3 m c' h2 h1 }
    fz := R.fz
    own := fun i d h => by
      obtain ⟨h1, h2, h3, h4, h5⟩ := R.own i d h
      exact ⟨h1, h2, h3, h4.le (LeH.refl _) (LeA.refl _) (upd_ne fun z => h3 (by rw [z]; exact mem)), h5⟩
    lng := R.lng
    inj := R.inj }
theorem getElem?_set_slot {ρ : Env'} {i j : Nat} {x y : Slot} (h : (ρ.set i x)[j]? = some y) : (i = j ∧ i < ρ.length ∧ y = x) ∨ (i ≠ j ∧ ρ[j]? = some y) := by
  by_cases e : i = j
  · subst e
    by_cases hl : i < ρ.length
    · rw [List.getElem?_set_self hl] at h; cases h; exact .inl ⟨rfl, hl, rfl⟩
    · rw [List.getElem?_eq_none (by rw [List.length_set]; omega)] at h; cases h
  · rw [List.getElem?_set_ne e] at h; exact .inr ⟨e, h⟩
/-- a name's own container changed -/
theorem Rel.putOwn {i : Nat} {d' : D} (R : Rel p Pr ρ S F ι α σ H) (hi : ρ[i]? = some (.own d')) (hc : CRep p.K F ι (upd H (α i) o) (α i) d) : Rel p Pr (ρ.set i (.own d)) S F ι α σ (upd H (α i) o) := by
  obtain ⟨k1, k2, k3, k4, k5⟩ := R.own i d' hi
  exact {
    wd := {
      sub := fun b u e => by
        have hb : b ≠ α i := fun z => by rw [z, k2] at e; cases e
        rcases R.wd.sub b u e with h | ⟨k, ob, h⟩
        · exact .inl (by rw [upd_ne hb]; exact h)
        · exact .inr ⟨k, ob, by rw [upd_ne hb]; exact h⟩
      con := R.wd.con
      len := R.wd.len
      tab := by
        obtain ⟨_, q1, q2⟩ := k4.nte
        exact ⟨tabs_upd R.wd.tab.t q1 q2, R.wd.tab.f, R.wd.tab.p⟩
      nd := R.wd.nd
      cell := fun m c' b h1 h2 => by
        obtain ⟨q1, q2⟩ := R.wd.cell m c' b h1 h2
        exact ⟨q1, q2.le (LeH.refl _) (LeA.refl _) (upd_ne fun z => k3 (by rw [← z]; exact List.mem_of_getElem? h2))⟩
      prot := fun b u h => by
        obtain ⟨q1, q2, q3⟩ := R.wd.prot b u h
        exact ⟨by rw [upd_ne fun z => by rw [z, k5] at h; cases h]; exact q1, q2, q3⟩ }
    fz := fun j e h => by
      rcases getElem?_set_slot h with ⟨_, _, z⟩ | ⟨_, h⟩
      · cases z
      · exact R.fz j e h
    own := fun j e h => by
      rcases getElem?_set_slot h with ⟨z, _, w⟩ | ⟨ne, h⟩
      · subst z; cases w
        exact ⟨k1, k2, k3, hc, k5⟩
      · obtain ⟨h1, h2, h3, h4, h5⟩ := R.own j e h
        exact ⟨h1, h2, h3, h4.le (LeH.refl _) (LeA.refl _) (upd_ne fun z => ne (R.inj _ _ _ _ h hi z).symm), h5⟩
    lng := by rw [List.length_set]; exact R.lng
    inj := fun j l e e' h1 h2 z => by
      rcases getElem?_set_slot h1 with ⟨z1, _, _⟩ | ⟨_, h1⟩
      · rcases getElem?_set_slot h2 with ⟨z2, _, _⟩ | ⟨_, h2⟩
        · rw [← z1, ← z2]
        · subst z1; exact R.inj _ _ _ _ hi h2 z
      · rcases getElem?_set_slot h2 with ⟨z2, _, _⟩ | ⟨_, h2⟩
        · subst z2; exact R.inj _ _ _ _ h1 hi z
        · exact R.inj _ _ _ _ h1 h2 z }
/-- a name gets a new container as its own -/
theorem Rel.setOwn {i : Nat} (R : Rel p Pr ρ S F ι α σ H) (f : Fr p Pr ρ F ι α H a d) : Rel p Pr (ρ.set i (.own d)) S F ι (fun j => if j = i then a else α j) (σ.set i (some (.ref a))) H where
  wd := R.wd
  fz := fun j e h => by
    rcases getElem?_set_slot h with ⟨_, _, z⟩ | ⟨ne, h⟩
    · cases z
    · rw [List.getElem?_set_ne ne]; exact R.fz j e h
  own := fun j e h => by
    rcases getElem?_set_slot h with ⟨z, hl, w⟩ | ⟨ne, h⟩
    · subst z; cases w
      rw [if_pos rfl, List.getElem?_set_self (Nat.lt_of_lt_of_le hl R.lng)]
      exact ⟨rfl, f.nf, f.ni, f.rep, f.np⟩
    · rw [List.getElem?_set_ne ne, if_neg (fun z => ne z.symm)]; exact R.own j e h
  lng := by rw [List.length_set, List.length_set]; exact R.lng
  inj := fun j l e e' h1 h2 z => by
    rcases getElem?_set_slot h1 with ⟨z1, _, _⟩ | ⟨n1, h1⟩
    · rcases getElem?_set_slot h2 with ⟨z2, _, _⟩ | ⟨n2, h2⟩
      · rw [← z1, ← z2]
      · rw [if_pos z1.symm, if_neg (fun y => n2 y.symm)] at z
        exact absurd z.symm (f.no l _ h2)
    · rcases getElem?_set_slot h2 with ⟨z2, _, _⟩ | ⟨n2, h2⟩
      · rw [if_pos z2.symm, if_neg (fun y => n1 y.symm)] at z
        exact absurd z (f.no j _ h1)
      · rw [if_neg (fun y => n1 y.symm), if_neg (fun y => n2 y.symm)] at z
        exact R.inj _ _ _ _ h1 h2 z
/-- a name gets a value -/
theorem Rel.setFz {i : Nat} {v : V} (R : Rel p Pr ρ S F ι α σ H) (r : Rep p.K F ι v d) : Rel p Pr (ρ.set i (.fz d)) S F ι α (σ.set i (some v)) H where
  wd := R.wd
  fz := fun j e h => by
    rcases getElem?_set_slot h with ⟨z, hl, w⟩ | ⟨ne, h⟩
    · subst z; cases w
      exact ⟨v, by rw [List.getElem?_set_self (Nat.lt_of_lt_of_le hl R.lng)], r⟩
    · rw [List.getElem?_set_ne ne]; exact R.fz j e h
  own := fun j e h => by
    rcases getElem?_set_slot h with ⟨_, _, z⟩ | ⟨ne, h⟩
    · cases z
    · rw [List.getElem?_set_ne ne]; exact R.own j e h
  lng := by rw [List.length_set, List.length_set]; exact R.lng
  inj := fun j l e e' h1 h2 z => by
    rcases getElem?_set_slot h1 with ⟨_, _, z1⟩ | ⟨n1, h1⟩
    · cases z1
    · rcases getElem?_set_slot h2 with ⟨_, _, z2⟩ | ⟨n2, h2⟩
      · cases z2
      · exact R.inj _ _ _ _ h1 h2 z
/-- less is protected -/
theorem Rel.weak {Pr' : Hp} (R : Rel p Pr' ρ S F ι α σ H) (h : ∀ b o, Pr b = some o → Pr' b = some o) : Rel p Pr ρ S F ι α σ H where
  wd := { sub := R.wd.sub, con := R.wd.con, len := R.wd.len, tab := ⟨R.wd.tab.t, R.wd.tab.f, fun b ps e => R.wd.tab.p b ps (h b _ e)⟩, nd := R.wd.nd, cell := R.wd.cell, prot := fun b u q => R.wd.prot b u (h b u q) }
  fz := R.fz
  own := fun i d k => by
    obtain ⟨h1, h2, h3, h4, h5⟩ := R.own i d k
    refine ⟨h1, h2, h3, h4, ?_⟩
    cases q : Pr (α i) with
    | none => rfl
    | some u => rw [h _ _ q] at h5; cases h5
  lng := R.lng
  inj := R.inj
end
section
variable {p : Pg} {N : List Str} {sc : Scope} {fn : Str → Bool} {k : Nat} {X : Cx} {G : Fns} {ρ : Env'} {S : Store} {e ea eb ec : Expr} {pos : Pos} {a b c : Ex}
theorem fe_of_fn {r : Option (D × Store)} (h : FN p X ρ S e r) : FE p X ρ S e r := by
  intro Pr F ι α σ H R d S' er Q q
  refine h Pr F ι α σ H R d S' er Q fun c F' ι' H' R' l m f => ?_
  obtain ⟨F2, R2, l2, r2⟩ := R'.freeze f
  exact q _ F2 ι' H' R2 (l.trans l2) m r2
theorem fn_list {es : List Expr} {as : Ar} (ha : FA p X ρ S es (evA G as ρ S)) : FN p X ρ S (.List es pos) (evE G (.list as) ρ S) := by
  intro Pr F ι α σ H R d S' e Q q
  rw [evE] at e
  obtain ⟨⟨us, S1⟩, e1, e⟩ := Option.bind_eq_some_iff.mp e
  split at e
  · rename_i hz
    cases e
    refine wE_of (pe_lst paW) (ha Pr F ι α σ H R _ _ e1 _ fun vs F' ι' H' R' l m rs => ⟨by rw [rs.length]; exact hz, fun c hc => ?_⟩)
    obtain ⟨R2, f2⟩ := R'.alloc (d := .lst us) (o := .lst vs) hc fun G g => ⟨vs, g, rs⟩
    exact q c F' ι' _ R2 l m f2
  · cases e
theorem fn_dnew {t : Bool} : FN p X ρ S (.Dict [] [] pos) (evE G (.dnew t) ρ S) := by
  intro Pr F ι α σ H R d S' e Q q
  rw [evE] at e
  cases e
  cases t with
  | true =>
    refine wE_of pe_dnewT fun c hc => ?_
    obtain ⟨R2, f2⟩ := R.alloc (d := .dT []) (o := .dT []) hc fun G g => ⟨[], g, rfl, .nil⟩
    exact q c F ι _ R2 (LeH.refl _) (LeA.refl _) f2
  | false =>
    refine wE_of pe_dnewK fun c hc => ?_
    obtain ⟨R2, f2⟩ := R.alloc (d := .dK []) (o := .dK []) hc fun G g => ⟨[], g, rfl, .nil⟩
    exact q c F ι _ R2 (LeH.refl _) (LeA.refl _) f2
/-- a slice's bound -/
def FO (p : Pg) (X : Cx) (ρ : Env') (o : Option Expr) (ev : Store → Option (List D × Store)) : Prop := ∃ t, PO X o t ∧ ∀ {S : Store} {Pr F ι α σ H}, Rel p Pr ρ S F ι α σ H → ∀ {ds S'}, ev S = some (ds, S') → ∀ {r}, ixO ds = some r →
  ∀ Q : Option Int → Hp → Prop, (∀ F' ι' H', Rel p Pr ρ S' F' ι' α σ H' → LeH F F' → LeA ι ι' → Q r H') → t σ H Q
theorem fo_none : FO p X ρ none (evA G .nil ρ) := by
  refine ⟨_, po_none, fun {S Pr F ι α σ H} R ds S' e r er Q q => ?_⟩
  rw [evA] at e; cases e; cases er
  exact q F ι H R (LeH.refl _) (LeA.refl _)
theorem fo_some (h : ∀ S, FE p X ρ S e (evE G a ρ S)) : FO p X ρ (some e) (evA G (.cons a .nil) ρ) := by
  refine ⟨_, po_some (peW (e := e)), fun {S Pr F ι α σ H} R ds S' e r er Q q => ?_⟩
  rw [evA] at e
  obtain ⟨⟨x1, S1⟩, h1, h2⟩ := Option.bind_eq_some_iff.mp e
  obtain ⟨⟨x2, S2⟩, h3, h4⟩ := Option.map_eq_some_iff.mp h2
  rw [evA] at h3; cases h3
  cases h4
  cases x1 <;> try cases er
  exact h S Pr F ι α σ H R _ _ h1 _ fun v F' ι' H' R' l m rv => by cases rv; exact ⟨_, rfl, q F' ι' H' R' l m⟩
theorem fe_sl {eo : Expr} {lo hi : Option Expr} {al ah : Ar} {p2 : Pos} (g : Good p N sc fn k X) (ha : FH p X ρ S eo (hOf a ρ S (evE G a ρ S))) (hl : FO p X ρ lo (evA G al ρ)) (hh : FO p X ρ hi (evA G ah ρ)) :
    FE p X ρ S (.Subscript eo (.Slice lo hi none p2) pos) (evE G (.sl a al ah) ρ S) := by
  intro Pr F ι α σ H R d S' e Q q
  rw [evE] at e
  obtain ⟨⟨h1, S1⟩, e1, e⟩ := Option.bind_eq_some_iff.mp e
  obtain ⟨⟨y, S2⟩, e2, e⟩ := Option.bind_eq_some_iff.mp e
  obtain ⟨⟨z, S3⟩, e3, e⟩ := Option.bind_eq_some_iff.mp e
  obtain ⟨u, e4, e⟩ := Option.bind_eq_some_iff.mp e
  obtain ⟨lo', e7, e⟩ := Option.bind_eq_some_iff.mp e
  obtain ⟨hi', e8, e⟩ := Option.bind_eq_some_iff.mp e
  obtain ⟨d', e5, e6⟩ := Option.map_eq_some_iff.mp e
  cases e6
  obtain ⟨tl, pl, hl⟩ := hl
  obtain ⟨th, ph, hh⟩ := hh
  have hK := g.K
  have run : ∀ r, SlR X r → (∀ x F3 ι3 H3, Rel p Pr ρ S3 F3 ι3 α σ H3 → LeH F F3 → LeA ι ι3 → HRep p F3 ι3 α x h1 → r x lo' hi' H3 Q) → wE X (.Subscript eo (.Slice lo hi none p2) pos) σ H Q := fun r hr hq =>
    wE_of (pe_slice hr peW pl ph) (ha Pr F ι α σ H R _ _ e1 _ fun x F1 ι1 H1 R1 l1 m1 r1 => hl R1 e2 e7 _ fun F2 ι2 H2 R2 l2 m2 => hh R2 e3 e8 _ fun F3 ι3 H3 R3 l3 m3 =>
      hq x F3 ι3 H3 R3 ((l1.trans l2).trans l3) ((m1.trans m2).trans m3) ((r1.le l2 m2).le l3 m3))
  have fin : ∀ x F3 ι3 H3, Rel p Pr ρ S3 F3 ι3 α σ H3 → LeH F F3 → LeA ι ι3 → HRep p F3 ι3 α x h1 → rSlL X.K x lo' hi' H3 Q ∨ rSlA X.K x lo' hi' H3 Q ∨ rSlS x lo' hi' H3 Q := fun x F3 ι3 H3 R3 l m r => by
    have cw := cw_of R3 r e4
    refine sl_ok g.pg R3.wd.sub cw.cv ?_ e5 fun z F4 H4 gr rz => q z F4 ι3 H4 (R3.grow gr) (l.trans gr.f) m rz
    cases u <;> first | exact .inl (cw.rep rfl) | exact .inr (fun _ h => nomatch h)
  exact run _ (SlR.or sl_list (SlR.or sl_tupA sl_str)) fin
theorem fe_rev {kk : Nat} {p1 p2 p3 : Pos} (g : Good p N sc fn k X) (ha : FH p X ρ S ea (hOf a ρ S (evE G a ρ S))) : FE p X ρ S (.Subscript ea (.Slice none none (some (.UnaryOp .USub (.Constant (.int 1) kk p1) p2)) p3) pos) (evE G (.rev a) ρ S) := by
  intro Pr F ι α σ H R d S' e Q q
  rw [evE] at e
  obtain ⟨⟨h1, S1⟩, e1, e⟩ := Option.bind_eq_some_iff.mp e
  obtain ⟨u, e4, e⟩ := Option.bind_eq_some_iff.mp e
  cases u <;> try cases e
  refine wE_of (pe_revL peW) (ha Pr F ι α σ H R _ _ e1 _ fun x F1 ι1 H1 R1 l1 m1 r1 => ?_)
  obtain ⟨c, vs, hx, q1, q2⟩ := cv_of R1 r1 e4
  refine ⟨c, vs, hx, by rw [g.K]; exact q1, fun y hy => ?_⟩
  exact newL R1.wd.sub q2.rev hy fun z F2 H2 gr rz => q z F2 ι1 H2 (R1.grow gr) (l1.trans gr.f) m1 rz
structure FldOk (p : Pg) (G : Fns) : Prop where
  fld : ∀ C f Ca, G.fld C f = true → p.cls C = some Ca → Cls p.K Ca ∧ NoAttr p.K Ca f
theorem fs_lookup {K : PySem.W.Frag} {F : Hp} {ι : List Addr} {f : Str} {d : D} : ∀ {fv : List (Str × V)} {fs : List (Str × D)}, fv.map (·.1) = fs.map (·.1) → Reps K F ι (fv.map (·.2)) (fs.map (·.2)) → fs.lookup f = some d → ∃ v, fv.lookup f = some v ∧ Rep K F ι v d
  | [], [], _, _, h => by cases h
  | [], _ :: _, e, _, _ => by cases e
  | _ :: _, [], e, _, _ => by cases e
  | (g, v) :: fv, (g', d') :: fs, e, r, h => by
    simp only [List.map_cons, List.cons.injEq] at e
    obtain ⟨e1, e2⟩ := e
    subst e1
    cases r with
    | cons r1 r2 =>
      simp only [List.lookup_cons] at h ⊢
      cases hb : f == g with
      | true => rw [hb] at h; cases h; exact ⟨v, rfl, r1⟩
      | false => rw [hb] at h; exact fs_lookup e2 r2 h
theorem fs_none {f : Str} : ∀ {fv : List (Str × V)} {fs : List (Str × D)}, fv.map (·.1) = fs.map (·.1) → (fs.lookup f).isNone = true → fv.lookup f = none
  | [], [], _, _ => rfl
  | [], _ :: _, e, _ => by cases e
  | _ :: _, [], e, _ => by cases e
  | (g, v) :: fv, (g', d') :: fs, e, h => by
    simp only [List.map_cons, List.cons.injEq] at e
    obtain ⟨e1, e2⟩ := e
    subst e1
    simp only [List.lookup_cons] at h ⊢
    cases hb : f == g with
    | true => rw [hb] at h; cases h
    | false => rw [hb] at h; exact fs_none e2 h
theorem fe_fld {f : Str} (g : Good p N sc fn k X) (gf : FldOk p G) (hb : attributeBase ea f X.env (eval ea X.env) = eval ea X.env) (ha : FE p X ρ S ea (evE G a ρ S)) : FE p X ρ S (.Attribute ea f pos) (evE G (.fld a f) ρ S) := by
  intro Pr F ι α σ H R d S' e Q q
  rw [evE] at e
  obtain ⟨⟨u, S1⟩, e1, e⟩ := Option.bind_eq_some_iff.mp e
  cases u <;> try cases e
  rename_i n
  simp only at e
  split at e
  · rename_i C fs hc
    split at e
    · rename_i hf
      obtain ⟨d', e2, e3⟩ := Option.map_eq_some_iff.mp e
      cases e3
      refine wE_of (pe_fld peW hb) (ha Pr F ι α σ H R _ _ e1 _ fun x F1 ι1 H1 R1 l1 m1 r1 => ?_)
      obtain ⟨b, hb1, _, Ca, dx, fv, h1, h2, h3, h4⟩ := R1.wd.at hc
      cases r1 with
      | ref hn =>
        rw [hb1] at hn; cases hn
        obtain ⟨v, e5, rv⟩ := fs_lookup h3 h4 e2
        obtain ⟨c1, c2⟩ := gf.fld C f Ca hf h1
        rw [← g.K] at c1 c2
        exact ⟨b, Ca, dx, fv, v, rfl, h2, c1, c2, e5, q v F1 ι1 H1 R1 l1 m1 rv⟩
    · cases e
  · cases e
theorem isD_of {F : Hp} {ι : List Addr} {H : Hp} {x : V} {u : D} (h : CV p F ι H x u) (d : isDct (some u) = true) : ∃ a, x = .ref a ∧ IsD H a := by
  cases u <;> try cases d
  · obtain ⟨a, kvs, rfl, q, _⟩ := h; exact ⟨a, rfl, .inl ⟨kvs, q⟩⟩
  · obtain ⟨a, kvs, rfl, q, _⟩ := h; exact ⟨a, rfl, .inr ⟨kvs, q⟩⟩
theorem fe_get {apos : Pos} (g : Good p N sc fn k X) (m : M1 X ea "get" apos eb pos) (ha : FH p X ρ S ea (hOf a ρ S (evE G a ρ S))) (hb : ∀ S, FE p X ρ S eb (evE G b ρ S)) : FE p X ρ S (.Call (.Attribute ea "get" apos) [eb] [] pos) (evE G (.get a b) ρ S) := by
  intro Pr F ι α σ H R d S' e Q q
  rw [evE] at e
  obtain ⟨⟨h1, S1⟩, e1, e⟩ := Option.bind_eq_some_iff.mp e
  split at e
  · rename_i hd
    obtain ⟨⟨y, S2⟩, e2, e⟩ := Option.bind_eq_some_iff.mp e
    obtain ⟨u, e3, e⟩ := Option.bind_eq_some_iff.mp e
    obtain ⟨o, e4, e5⟩ := Option.map_eq_some_iff.mp e
    cases e5
    have hu : X.A.units + 1 < cLine := by have := g.units; omega
    refine wE_of (pe_dget1 hu peW peW m) (ha Pr F ι α σ H R _ _ e1 _ fun x F1 ι1 H1 R1 l1 m1 r1 => ?_)
    cases hc : cont ρ S1 h1 with
    | none => rw [hc] at hd; cases hd
    | some u0 =>
    rw [hc] at hd
    obtain ⟨c, rfl, hI⟩ := isD_of (cv_of R1 r1 hc) hd
    refine ⟨c, rfl, hI, hb S1 Pr F1 ι1 α σ H1 R1 _ _ e2 _ fun y' F2 ι2 H2 R2 l2 m2 r2 => ?_⟩
    have hy : ∀ n, y ≠ .ref n := fun n z => by subst z; cases u <;> simp [dget, keyK, keyT] at e4
    obtain ⟨a', o', ea', g1, _, g3⟩ := dget_ok (cv_of R2 (r1.le l2 m2) e3) (.of_rep R2.wd.sub r2 hy) e4
    cases ea'
    refine ⟨o', g1, ?_⟩
    rcases g3 with ⟨rfl, rfl⟩ | ⟨d', v', rfl, rfl, r3⟩
    · exact q _ F2 ι2 H2 R2 (l1.trans l2) (m1.trans m2) .non
    · exact q _ F2 ι2 H2 R2 (l1.trans l2) (m1.trans m2) r3
  · cases e
theorem fe_getd {apos : Pos} (g : Good p N sc fn k X) (m : M2 X ea "get" apos eb ec pos) (ha : FH p X ρ S ea (hOf a ρ S (evE G a ρ S))) (hb : ∀ S, FE p X ρ S eb (evE G b ρ S)) (hc : ∀ S, FE p X ρ S ec (evE G c ρ S)) : FE p X ρ S (.Call (.Attribute ea "get" apos) [eb, ec] [] pos) (evE G (.getd a b c) ρ S) := by
  intro Pr F ι α σ H R d S' e Q q
  rw [evE] at e
  obtain ⟨⟨h1, S1⟩, e1, e⟩ := Option.bind_eq_some_iff.mp e
  split at e
  · rename_i hd
    obtain ⟨⟨y, S2⟩, e2, e⟩ := Option.bind_eq_some_iff.mp e
    obtain ⟨⟨w, S3⟩, e6, e⟩ := Option.bind_eq_some_iff.mp e
    obtain ⟨u, e3, e⟩ := Option.bind_eq_some_iff.mp e
    obtain ⟨o, e4, e5⟩ := Option.map_eq_some_iff.mp e
    cases e5
    have hu : X.A.units + 1 < cLine := by have := g.units; omega
    refine wE_of (pe_dget2 hu peW peW peW m) (ha Pr F ι α σ H R _ _ e1 _ fun x F1 ι1 H1 R1 l1 m1 r1 => ?_)
    cases hcc : cont ρ S1 h1 with
    | none => rw [hcc] at hd; cases hd
    | some u0 =>
    rw [hcc] at hd
    obtain ⟨cc, rfl, hI⟩ := isD_of (cv_of R1 r1 hcc) hd
    refine ⟨cc, rfl, hI, hb S1 Pr F1 ι1 α σ H1 R1 _ _ e2 _ fun y' F2 ι2 H2 R2 l2 m2 r2 => hc S2 Pr F2 ι2 α σ H2 R2 _ _ e6 _ fun w' F3 ι3 H3 R3 l3 m3 r3 => ?_⟩
    have hy : ∀ n, y ≠ .ref n := fun n z => by subst z; cases u <;> simp [dget, keyK, keyT] at e4
    obtain ⟨a', o', ea', g1, _, g3⟩ := dget_ok (cv_of R3 ((r1.le l2 m2).le l3 m3) e3) (.of_rep R3.wd.sub (r2.le l3 m3) hy) e4
    cases ea'
    refine ⟨o', g1, ?_⟩
    rcases g3 with ⟨rfl, rfl⟩ | ⟨d', v', rfl, rfl, r4⟩
    · exact q _ F3 ι3 H3 R3 ((l1.trans l2).trans l3) ((m1.trans m2).trans m3) r3
    · exact q _ F3 ι3 H3 R3 ((l1.trans l2).trans l3) ((m1.trans m2).trans m3) r4
  · cases e
theorem fe_mref (ha : FN p X ρ S ea (evE G a ρ S)) : FE p X ρ S ea (evE G (.mref a) ρ S) := by
  intro Pr F ι α σ H R d S' e Q q
  rw [evE] at e
  obtain ⟨⟨u, S1⟩, e1, e⟩ := Option.bind_eq_some_iff.mp e
  refine ha Pr F ι α σ H R _ _ e1 _ fun c F1 ι1 H1 R1 l1 m1 f1 => ?_
  obtain ⟨R2, at2⟩ := R1.addCell f1
  cases u <;> simp only [newRef] at e <;> first
    | (cases e; exact q _ F1 (ι1 ++ [c]) H1 R2 l1 (m1.trans (LeA.app _ _)) (.ref at2))
    | (cases e)
end
end Z

set_option Elab.async false
set_option linter.all false
set_option maxRecDepth 100000
set_option maxHeartbeats 4000000
namespace Z
open PySem PySem.Spec PyProof.Rows L2

/-! # what is walked -/
def NoFz (X : Cx) (d : Addr) : Prop := ∀ o' u', X.H_0 d ≠ some (.frz o' u')
def Unl (X : Cx) (P : Hp → Prop) (H : Hp) : Prop := P H ∨ ∃ d od u, H d = some (.frz od u) ∧ NoFz X d ∧ P (upd H d u)
def wI (X : Cx) (tg iter : Expr) : TI := fun σ H R => ∀ pins s, Inv X pins σ H s → wpAny (model X.prog X.w) X.A (eval iter X.env) (fun v s1 => wpAny (model X.prog X.w) X.A (pyIter v) (PIE X pins σ tg R) X.xe s1) X.xe s
section
variable {X : Cx} {e tg iter : Expr} {st : Stmt} {σ : L2.St} {H : Hp}
theorem piW : PI X tg iter (wI X tg iter) := ⟨fun pins s _ _ _ I h => h pins s I⟩
theorem wI_of {t : TI} {R : L2.It → Hp → Prop} (h : PI X tg iter t) (q : t σ H R) : wI X tg iter σ H R := fun pins s I => h.run pins s σ H R I q
theorem wE_lock {Q : VK} (h : wE X e σ H fun x H1 => Q x H1 ∨ ∃ d u, H1 d = some u ∧ Mut (some u) ∧ ∀ od, NoFz X d → Q x (upd H1 d (.frz od u))) : wE X e σ H Q := by
  intro pins s I
  refine thn (h pins s I) fun v s1 ⟨x, H1, I1, r, q⟩ => ?_
  rcases q with q | ⟨d, u, hd, mu, q⟩
  · exact ⟨x, H1, I1, r, q⟩
  · obtain ⟨od, I2⟩ := I1.lock hd mu
    exact ⟨x, _, I2, r, q od (I1.nofrz hd mu)⟩
theorem wE_unl {Q : VK} (h : wE X e σ H fun x H1 => Unl X (Q x) H1) : wE X e σ H Q := by
  intro pins s I
  refine thn (h pins s I) fun v s1 ⟨x, H1, I1, r, q⟩ => ?_
  rcases q with q | ⟨d, od, u, hd, nf, q⟩
  · exact ⟨x, H1, I1, r, q⟩
  · exact ⟨x, _, I1.unlock hd nf, r, q⟩
theorem wS_unl {D : Ends} (h : wS X st ⟨fun σ' => Unl X (D.nx σ'), fun v => Unl X (D.rt v), fun σ' => Unl X (D.bk σ'), fun σ' => Unl X (D.ct σ')⟩ σ H) : wS X st D σ H := by
  intro pins s I
  refine thn (h pins s I) fun fl s1 q => ?_
  cases fl with
  | next =>
    obtain ⟨σ', H', I2, q | ⟨d, od, u, hd, nf, q⟩⟩ := q
    · exact ⟨σ', H', I2, q⟩
    · exact ⟨σ', _, I2.unlock hd nf, q⟩
  | brk =>
    obtain ⟨σ', H', I2, q | ⟨d, od, u, hd, nf, q⟩⟩ := q
    · exact ⟨σ', H', I2, q⟩
    · exact ⟨σ', _, I2.unlock hd nf, q⟩
  | cont =>
    obtain ⟨σ', H', I2, q | ⟨d, od, u, hd, nf, q⟩⟩ := q
    · exact ⟨σ', H', I2, q⟩
    · exact ⟨σ', _, I2.unlock hd nf, q⟩
  | ret v =>
    obtain ⟨x, σ', H', I2, r, q | ⟨d, od, u, hd, nf, q⟩⟩ := q
    · exact ⟨x, σ', H', I2, r, q⟩
    · exact ⟨x, σ', _, I2.unlock hd nf, r, q⟩
end
def lkP (Pr : Hp) : Option (Addr × HO) → Hp
  | none => Pr
  | some (a, o) => upd Pr a o
def LkOk (H : Hp) : Option (Addr × HO) → Prop
  | none => True
  | some (a, o) => H a = some o
structure Walk (p : Pg) (J : L2.It) (F0 : Hp) (ι0 : List Addr) (v : V) (u : D) (xs : List D) (Lk : Option (Addr × HO)) : Prop where
  step : ∀ {i : Nat} {d : D}, xs[i]? = some d → ∀ {Pr S F ι H}, Wd p Pr S F ι H → LeH F0 F → LeA ι0 ι → CV p F ι H v u → LkOk H Lk → J.go i H ∧ ∀ x H', J.yld i H x H' → ∃ F', Grow F H F' H' ∧ Rep p.K F' ι x d
  stop : ∀ {Pr S F ι H}, Wd p Pr S F ι H → LeH F0 F → LeA ι0 ι → CV p F ι H v u → LkOk H Lk → J.stop xs.length H
def FreeOk (X : Cx) (p : Pg) (Pr : Hp) (Lk : Option (Addr × HO)) (lk : Option (Nat × D)) (F : Hp) (ι : List Addr) : Prop :=
  ∀ {ρ' S' F' ι' α' σ' H' S''}, Rel p (lkP Pr Lk) ρ' S' F' ι' α' σ' H' → LeH F F' → LeA ι ι' → freeS S' lk = some S'' → ∃ H3, Rel p Pr ρ' S'' F' ι' α' σ' H3 ∧ (∀ b o, H' b = some o → (∀ ob u, o ≠ .frz ob u) → H3 b = some o) ∧ ∀ P : Hp → Prop, P H3 → Unl X P H'
def FI (p : Pg) (X : Cx) (ρ : Env') (S : Store) (tg iter : Expr) (r : Option (Hd × List D × Store)) : Prop :=
  ∀ Pr F ι α σ H, Rel p Pr ρ S F ι α σ H → ∀ w xs S1, r = some (w, xs, S1) → ∀ S2 lk, lockS ρ S1 w = some (S2, lk) → ∀ R : L2.It → Hp → Prop,
    (∀ J v u Lk F' ι' H', Rel p (lkP Pr Lk) ρ S2 F' ι' α σ H' → LeH F F' → LeA ι ι' → HRep p F' ι' α v w → cont ρ S2 w = some u → Walk p J F' ι' v u xs Lk → FreeOk X p Pr Lk lk F' ι' → (∀ b o, Pr b = some o → lkP Pr Lk b = some o) → R J H') → wI X tg iter σ H R
section
variable {p : Pg} {Pr : Hp} {ρ : Env'} {S : Store} {F : Hp} {ι : List Addr} {α : Nat → Addr} {σ : L2.St} {H : Hp} {a : Addr} {d : D} {o : HO}
theorem Rel.lk (R : Rel p (lkP Pr (some (a, o))) ρ S F ι α σ H) : LkOk H (some (a, o)) := (R.wd.prot a o upd_same).1
theorem Rel.lkOk {Lk : Option (Addr × HO)} (R : Rel p (lkP Pr Lk) ρ S F ι α σ H) : LkOk H Lk := by
  cases Lk with
  | none => trivial
  | some q => exact R.lk
/-- one thing more is protected -/
theorem Rel.guard (R : Rel p Pr ρ S F ι α σ H) (h : H a = some o) (l : F a = none ∨ Loose o) (c : ∀ (n : Nat) (c : Cell), ι[n]? = some a → S[n]? = some c → ∃ d, c = .lck d) (n : ∀ j e, ρ[j]? = some (.own e) → α j ≠ a) (nt : ∀ ps, o ≠ .tbl ps := by intro _ z; cases z) : Rel p (upd Pr a o) ρ S F ι α σ H where
  wd := {
    sub := R.wd.sub
    con := R.wd.con
    len := R.wd.len
    tab := ⟨R.wd.tab.t, R.wd.tab.f, fun b ps e => by
      by_cases hb : b = a
      · subst hb; rw [upd_same] at e; exact nt ps (Option.some.inj e)
      · rw [upd_ne hb] at e; exact R.wd.tab.p b ps e⟩
    nd := R.wd.nd
    cell := R.wd.cell
    prot := fun b u q => by
      by_cases hb : b = a
      · subst hb; rw [upd_same] at q; cases q; exact ⟨h, l, c⟩
      · rw [upd_ne hb] at q; exact R.wd.prot b u q }
  fz := R.fz
  own := fun i d k => by
    obtain ⟨h1, h2, h3, h4, h5⟩ := R.own i d k
    exact ⟨h1, h2, h3, h4, by rw [upd_ne (n i d k)]; exact h5⟩
  lng := R.lng
  inj := R.inj
/-- a kept dict is locked for good -/
theorem Rel.lockF {od : Obj} (R : Rel p Pr ρ S F ι α σ H) (f : F a = some o) (k : (∃ kvs, o = .dK kvs) ∨ ∃ kvs, o = .dT kvs) (h : H a = some o) : Rel p Pr ρ S F ι α σ (upd H a (.frz od o)) where
  wd := {
    sub := fun b u e => by
      by_cases hb : b = a
      · subst hb; rw [f] at e; cases e; exact .inr ⟨k, od, upd_same⟩
      · rcases R.wd.sub b u e with q | ⟨k', ob, q⟩
        · exact .inl (by rw [upd_ne hb]; exact q)
        · exact .inr ⟨k', ob, by rw [upd_ne hb]; exact q⟩
    con := R.wd.con
    len := R.wd.len
    tab := ⟨tabs_upd R.wd.tab.t h (by rcases k with ⟨_, rfl⟩ | ⟨_, rfl⟩ <;> exact id), R.wd.tab.f, R.wd.tab.p⟩
    nd := R.wd.nd
    cell := fun n c b h1 h2 => by
      obtain ⟨q1, q2⟩ := R.wd.cell n c b h1 h2
      exact ⟨q1, q2.le (LeH.refl _) (LeA.refl _) (upd_ne fun z => by rw [z, f] at q1; cases q1)⟩
    prot := fun b u q => by
      obtain ⟨q1, q2, q3⟩ := R.wd.prot b u q
      refine ⟨?_, q2, q3⟩
      rw [upd_ne]
      · exact q1
      · intro z
        subst z
        rw [h] at q1; cases q1
        rcases q2 with q2 | q2
        · rw [f] at q2; cases q2
        · rcases k with ⟨kvs, rfl⟩ | ⟨kvs, rfl⟩ <;> exact q2 }
  fz := R.fz
  own := fun i d k => by
    obtain ⟨h1, h2, h3, h4, h5⟩ := R.own i d k
    exact ⟨h1, h2, h3, h4.le (LeH.refl _) (LeA.refl _) (upd_ne fun z => by rw [z, f] at h2; cases h2), h5⟩
  lng := R.lng
  inj := R.inj
def DObj (K : PySem.W.Frag) (F : Hp) (ι : List Addr) (o : HO) : D → Prop
  | .dK es => ∃ kvs, o = .dK kvs ∧ kvs.map (·.1) = es.map (·.1) ∧ Reps K F ι (kvs.map (·.2)) (es.map (·.2))
  | .dT es => ∃ kvs, o = .dT kvs ∧ kvs.map (·.1) = es.map (·.1) ∧ Reps K F ι (kvs.map (·.2)) (es.map (·.2))
  | _ => False
theorem DObj.le {K : PySem.W.Frag} {F F' : Hp} {ι ι' : List Addr} {u : D} (l : LeH F F') (m : LeA ι ι') (h : DObj K F ι o u) : DObj K F' ι' o u := by
  cases u <;> simp only [DObj] at h ⊢
  · obtain ⟨kvs, h1, h2, h3⟩ := h; exact ⟨kvs, h1, h2, h3.le l m⟩
  · obtain ⟨kvs, h1, h2, h3⟩ := h; exact ⟨kvs, h1, h2, h3.le l m⟩
theorem DObj.c {K : PySem.W.Frag} {u : D} (h : DObj K F ι o u) {G : Hp} (g : G a = some o) : CRep K F ι G a u := by
  cases u <;> simp only [DObj] at h
  · obtain ⟨kvs, rfl, h2, h3⟩ := h; exact ⟨kvs, g, h2, h3⟩
  · obtain ⟨kvs, rfl, h2, h3⟩ := h; exact ⟨kvs, g, h2, h3⟩
theorem DObj.l {K : PySem.W.Frag} {u : D} (h : DObj K F ι o u) {G : Hp} {od : Obj} (g : G a = some (.frz od o)) : LRep K F ι G a u := by
  cases u <;> simp only [DObj] at h
  · obtain ⟨kvs, rfl, h2, h3⟩ := h; exact ⟨od, kvs, g, h2, h3⟩
  · obtain ⟨kvs, rfl, h2, h3⟩ := h; exact ⟨od, kvs, g, h2, h3⟩
theorem DObj.mut {K : PySem.W.Frag} {u : D} (h : DObj K F ι o u) : Mut (some o) ∧ ((∃ kvs, o = .dK kvs) ∨ ∃ kvs, o = .dT kvs) := by
  cases u <;> simp only [DObj] at h
  · obtain ⟨kvs, rfl, h2, h3⟩ := h; exact ⟨trivial, .inl ⟨_, rfl⟩⟩
  · obtain ⟨kvs, rfl, h2, h3⟩ := h; exact ⟨trivial, .inr ⟨_, rfl⟩⟩
theorem dobj_c {K : PySem.W.Frag} {u : D} (d : isDct (some u) = true) {G : Hp} (h : CRep K F ι G a u) : ∃ o, G a = some o ∧ DObj K F ι o u := by
  cases u <;> try cases d
  · obtain ⟨kvs, g, h2, h3⟩ := h; exact ⟨_, g, kvs, rfl, h2, h3⟩
  · obtain ⟨kvs, g, h2, h3⟩ := h; exact ⟨_, g, kvs, rfl, h2, h3⟩
theorem dobj_l {K : PySem.W.Frag} {u : D} (d : isDct (some u) = true) {G : Hp} (h : LRep K F ι G a u) : ∃ od o, G a = some (.frz od o) ∧ DObj K F ι o u := by
  cases u <;> try cases d
  · obtain ⟨od, kvs, g, h2, h3⟩ := h; exact ⟨_, _, g, kvs, rfl, h2, h3⟩
  · obtain ⟨od, kvs, g, h2, h3⟩ := h; exact ⟨_, _, g, kvs, rfl, h2, h3⟩
theorem dobj_f {K : PySem.W.Frag} {u : D} {x : V} (d : isDct (some u) = true) (h : Rep K F ι x u) : ∃ a o, x = .ref a ∧ F a = some o ∧ DObj K F ι o u := by
  cases u <;> try cases d
  · cases h with
    | dK e k r => exact ⟨_, _, rfl, e, _, rfl, k, r⟩
  · cases h with
    | dT e k r => exact ⟨_, _, rfl, e, _, rfl, k, r⟩
/-- what stands behind the locking of a dict -/
def Lkd (X : Cx) (p : Pg) (Pr : Hp) (ρ : Env') (S2 : Store) (F : Hp) (ι : List Addr) (α : Nat → Addr) (σ : L2.St) (w : Hd) (u : D) (lk : Option (Nat × D)) (a : Addr) (od : Obj) (o : HO) (H' : Hp) : Prop :=
  Rel p (lkP Pr (some (a, .frz od o))) ρ S2 F ι α σ H' ∧ cont ρ S2 w = some u ∧ FreeOk X p Pr (some (a, .frz od o)) lk F ι ∧ ∀ b u, Pr b = some u → lkP Pr (some (a, .frz od o)) b = some u
theorem sub_same {od : Obj} (R : Rel p Pr ρ S F ι α σ H) (h : H a = some (.frz od o) ∨ Pr a = none) : ∀ b u, Pr b = some u → lkP Pr (some (a, .frz od o)) b = some u := by
  intro b u q
  by_cases hb : b = a
  · subst hb
    rcases h with h | h
    · rw [(R.wd.prot b u q).1] at h; cases h
      exact upd_same
    · rw [h] at q; cases q
  · show upd Pr a _ b = _
    rw [upd_ne hb]; exact q
theorem free_same {X : Cx} {od : Obj} (R : Rel p Pr ρ S F ι α σ H) (h : H a = some (.frz od o) ∨ Pr a = none) : FreeOk X p Pr (some (a, .frz od o)) none F ι := by
  intro ρ' S' F' ι' α' σ' H' S'' R' _ _ e
  cases e
  exact ⟨H', R'.weak (sub_same R h), fun b o q _ => q, fun P q => .inl q⟩
theorem lock_ok {X : Cx} {w : Hd} {u : D} {x : V} {S2 : Store} {lk : Option (Nat × D)} (R : Rel p Pr ρ S F ι α σ H) (r : HRep p F ι α x w) (c : cont ρ S w = some u) (hd : isDct (some u) = true) (e : lockS ρ S w = some (S2, lk)) :
    ∃ a o, x = .ref a ∧ DObj p.K F ι o u ∧ ((∃ od, H a = some (.frz od o) ∧ Lkd X p Pr ρ S2 F ι α σ w u lk a od o H) ∨ (H a = some o ∧ ∀ od, NoFz X a → Lkd X p Pr ρ S2 F ι α σ w u lk a od o (upd H a (.frz od o)))) := by
  cases w with
  | slot i =>
    simp only [cont] at c
    simp only [lockS] at e
    split at e
    · rename_i xs hi
      rw [hi] at c; cases c; cases hd
    · cases e
  | val v =>
    by_cases hr : ∃ n, v = .ref n
    · obtain ⟨n, rfl⟩ := hr
      cases (show Rep p.K F ι x (.ref n) from r) with
      | @ref n a hn =>
      simp only [cont] at c
      split at c
      · rename_i d' hc
        cases c
        obtain ⟨b, hb, hF, hcr⟩ := R.wd.at hc
        rw [hn] at hb; cases hb
        obtain ⟨o, ho, dob⟩ := dobj_c hd hcr
        refine ⟨a, o, rfl, dob, .inr ⟨ho, fun od nf => ?_⟩⟩
        have hp : Pr a = none := by
          cases q : Pr a with
          | none => rfl
          | some u =>
            obtain ⟨d, z⟩ := (R.wd.prot a u q).2.2 n _ hn hc
            cases z
        have e2 : S2 = S.set n (.lck u) ∧ lk = some (n, u) := by
          simp only [lockS, hc] at e
          cases u <;> try cases hd
          · cases e; exact ⟨rfl, rfl⟩
          · cases e; exact ⟨rfl, rfl⟩
        obtain ⟨rfl, rfl⟩ := e2
        have hl : n < S.length := (List.getElem?_eq_some_iff.mp hc).1
        have R2 := R.put (n := n) (c := .lck u) (o := .frz od o) hn hp (dob.l upd_same)
        refine ⟨R2.guard upd_same (.inr trivial) (fun m c h1 h2 => ?_) (fun j e hj z => ?_), ?_, ?_⟩
        · obtain ⟨l1, e1⟩ := List.getElem?_eq_some_iff.mp h1
          obtain ⟨l2, e2⟩ := List.getElem?_eq_some_iff.mp hn
          have : m = n := by
            rcases Nat.lt_trichotomy m n with y | y | y
            · exact absurd (e1.trans e2.symm) (List.pairwise_iff_getElem.mp R.wd.nd _ _ l1 l2 y)
            · exact y
            · exact absurd (e2.trans e1.symm) (List.pairwise_iff_getElem.mp R.wd.nd _ _ l2 l1 y)
          subst this
          rw [List.getElem?_set_self hl] at h2; cases h2
          exact ⟨_, rfl⟩
        · exact (R.own j e hj).2.2.1 (by rw [z]; exact List.mem_of_getElem? hn)
        · simp only [cont, List.getElem?_set_self hl]
        refine ⟨?_, sub_same R (.inr hp)⟩
        · intro ρ' S' F' ι' α' σ' H' S'' R' l m ef
          simp only [freeS] at ef
          split at ef
          · rename_i dd hcc
            cases ef
            have ha : H' a = some (.frz od o) := R'.lk
            have hp' : ∀ b u, Pr b = some u → upd Pr a (.frz od o) b = some u := fun b u q => by
              rw [upd_ne fun z => by rw [z, hp] at q; cases q]; exact q
            have R3 := R'.weak (Pr := Pr) hp'
            refine ⟨upd H' a o, R3.put (m _ _ hn) hp ((dob.le l m).c upd_same), fun b o' q hn => ?_, fun P q => .inr ⟨a, od, o, ha, nf, q⟩⟩
            rw [upd_ne fun z => by rw [z, ha] at q; cases q; exact hn _ _ rfl]
            exact q
          · cases ef
      · rename_i d' hc
        cases c
        obtain ⟨b, hb, hF, hcr⟩ := R.wd.at hc
        rw [hn] at hb; cases hb
        obtain ⟨od, o, ho, dob⟩ := dobj_l hd hcr
        have e2 : S2 = S ∧ lk = none := by
          simp only [lockS, hc] at e
          cases e; exact ⟨rfl, rfl⟩
        obtain ⟨rfl, rfl⟩ := e2
        refine ⟨a, o, rfl, dob, .inl ⟨od, ho, R.guard ho (.inr trivial) (fun m c h1 h2 => ?_) (fun j e hj z => ?_), ?_, free_same R (.inl ho), sub_same R (.inl ho)⟩⟩
        · obtain ⟨l1, e1⟩ := List.getElem?_eq_some_iff.mp h1
          obtain ⟨l2, e2⟩ := List.getElem?_eq_some_iff.mp hn
          have : m = n := by
            rcases Nat.lt_trichotomy m n with y | y | y
            · exact absurd (e1.trans e2.symm) (List.pairwise_iff_getElem.mp R.wd.nd _ _ l1 l2 y)
            · exact y
            · exact absurd (e2.trans e1.symm) (List.pairwise_iff_getElem.mp R.wd.nd _ _ l2 l1 y)
          subst this
          rw [hc] at h2; cases h2
          exact ⟨_, rfl⟩
        · exact (R.own j e hj).2.2.1 (by rw [z]; exact List.mem_of_getElem? hn)
        · simp only [cont, hc]
      · cases c
    · have hv : ∀ n, v ≠ .ref n := fun n z => hr ⟨n, z⟩
      rw [cont_val hv] at c
      cases c
      have e2 : S2 = S ∧ lk = none := by
        cases u <;> first | exact absurd rfl (hv _) | (simp only [lockS] at e; cases e; exact ⟨rfl, rfl⟩)
      obtain ⟨rfl, rfl⟩ := e2
      obtain ⟨a, o, rfl, hF, dob⟩ := dobj_f hd r
      obtain ⟨mu, kk⟩ := dob.mut
      have nocell : ∀ (n : Nat) (c : Cell), ι[n]? = some a → S2[n]? = some c → ∃ d, c = .lck d := fun n c h1 h2 => by
        have := (R.wd.cell n c a h2 h1).1
        rw [hF] at this; cases this
      have noown : ∀ j e, ρ[j]? = some (.own e) → α j ≠ a := fun j e hj z => by
        have := (R.own j e hj).2.1
        rw [z, hF] at this; cases this
      rcases R.wd.sub a o hF with q | ⟨_, ob, q⟩
      · refine ⟨a, o, rfl, dob, .inr ⟨q, fun od _ => ⟨(R.lockF hF kk q).guard upd_same (.inr trivial) nocell noown, cont_val hv, free_same (R.lockF (od := od) hF kk q) (.inl upd_same), sub_same (R.lockF (od := od) hF kk q) (.inl upd_same)⟩⟩⟩
      · exact ⟨a, o, rfl, dob, .inl ⟨ob, q, R.guard q (.inr trivial) nocell noown, cont_val hv, free_same R (.inl q), sub_same R (.inl q)⟩⟩
end
section
variable {p : Pg} {N : List Str} {sc : Scope} {fn : Str → Bool} {k : Nat} {X : Cx} {G : Fns} {ρ : Env'} {S : Store} {e ea eb ec tg : Expr} {pos : Pos} {a b c : Ex}
theorem free_none {Pr : Hp} {F : Hp} {ι : List Addr} : FreeOk X p Pr none none F ι := by
  intro ρ' S' F' ι' α' σ' H' S'' R' _ _ e
  cases e
  exact ⟨H', R', fun b o q _ => q, fun P q => .inl q⟩
theorem keys_items {κ : Type} {K : PySem.W.Frag} {F : Hp} {ι : List Addr} : ∀ {kvs : List (κ × V)} {es : List (κ × D)}, kvs.map (·.1) = es.map (·.1) → Reps K F ι (kvs.map (·.2)) (es.map (·.2)) → ∀ {i : Nat} {key : κ} {v : V}, kvs[i]? = some (key, v) → ∃ d, es[i]? = some (key, d) ∧ Rep K F ι v d
  | [], _, _, _, _, _, _, h => by simp at h
  | _ :: _, [], e, _, _, _, _, _ => by cases e
  | (k1, v1) :: kvs, (k2, d2) :: es, e, r, i, key, v, h => by
    simp only [List.map_cons, List.cons.injEq] at e
    cases r with
    | cons r1 r2 =>
    cases i with
    | zero => simp at h; obtain ⟨rfl, rfl⟩ := h; exact ⟨d2, by simp [e.1], r1⟩
    | succ i => simpa using keys_items e.2 r2 (i := i) (by simpa using h)
theorem dK1_rep {K : PySem.W.Frag} {F : Hp} {ι : List Addr} (key : Key) : Rep K F ι (kV key) (dK1 key) := by cases key <;> first | exact .int _ | exact .str _
theorem ks_reps {K : PySem.W.Frag} {F : Hp} {ι : List Addr} : ∀ ks : List Key, Reps K F ι (ks.map kV) (ks.map dK1)
  | [] => .nil
  | k :: ks => .cons (dK1_rep k) (ks_reps ks)
theorem walk_lst {F0 : Hp} {ι0 : List Addr} {ad : Addr} {xs : List D} {Lk} (g : X.K = p.K) : Walk p (Itl X.K ad) F0 ι0 (.ref ad) (.lst xs) xs Lk where
  step := fun {i d} hd {Pr S F ι H} W l m cv _ => by
    obtain ⟨a, vs, ea, q1, q2⟩ := cv
    cases ea
    obtain ⟨v, h1, h2⟩ := q2.at hd
    rw [← g] at q1
    refine ⟨⟨vs, v, q1, h1⟩, fun x H' y => ?_⟩
    obtain ⟨rfl, y⟩ := y
    have := y vs q1
    rw [h1] at this; cases this
    exact ⟨F, .refl, h2⟩
  stop := fun {Pr S F ι H} W l m cv _ => by
    obtain ⟨a, vs, ea, q1, q2⟩ := cv
    cases ea
    exact ⟨vs, by rw [g]; exact q1, Nat.le_of_eq q2.length⟩
theorem walk_tup {F0 : Hp} {ι0 : List Addr} {ad : Addr} {xs : List D} {Lk} (g : X.K = p.K) : Walk p (Itt X.K ad) F0 ι0 (.ref ad) (.tup xs) xs Lk where
  step := fun {i d} hd {Pr S F ι H} W l m cv _ => by
    obtain ⟨a, vs, ea, q1, q2⟩ := cv
    cases ea
    obtain ⟨v, h1, h2⟩ := q2.at hd
    have q3 : SqT X.K H ad vs := q1.sq
    refine ⟨⟨vs, v, q3, h1⟩, fun x H' y => ?_⟩
    obtain ⟨rfl, y⟩ := y
    have := y vs q3
    rw [h1] at this; cases this
    exact ⟨F, .refl, h2⟩
  stop := fun {Pr S F ι H} W l m cv _ => by
    obtain ⟨a, vs, ea, q1, q2⟩ := cv
    cases ea
    exact ⟨vs, q1.sq, Nat.le_of_eq q2.length⟩
theorem walk_ctup {F0 : Hp} {ι0 : List Addr} {ad : Addr} {xs : List D} {Lk} (g : X.K = p.K) : Walk p (Itt X.K ad) F0 ι0 (.ref ad) (.ctup xs) xs Lk where
  step := fun {i d} hd {Pr S F ι H} W l m cv _ => by
    obtain ⟨a, vs, ea, q1, q2⟩ := cv
    cases ea
    obtain ⟨v, h1, h2⟩ := q2.at hd
    have q3 : SqT X.K H ad vs := (.inl q1)
    refine ⟨⟨vs, v, q3, h1⟩, fun x H' y => ?_⟩
    obtain ⟨rfl, y⟩ := y
    have := y vs q3
    rw [h1] at this; cases this
    exact ⟨F, .refl, h2⟩
  stop := fun {Pr S F ι H} W l m cv _ => by
    obtain ⟨a, vs, ea, q1, q2⟩ := cv
    cases ea
    exact ⟨vs, (.inl q1), Nat.le_of_eq q2.length⟩
theorem walk_str {F0 : Hp} {ι0 : List Addr} {x : Str} {v : V} {u : D} {Lk} : Walk p (Its x) F0 ι0 v u (signs x) Lk where
  step := fun {i d} hd {Pr S F ι H} W l m cv _ => by
    unfold signs at hd
    rw [List.getElem?_map] at hd
    obtain ⟨c, h1, h2⟩ := Option.map_eq_some_iff.mp hd
    subst h2
    rw [Array.getElem?_toList] at h1
    refine ⟨?_, fun y H' q => ?_⟩
    · exact (Array.getElem?_eq_some_iff.mp h1).1
    · obtain ⟨rfl, c', e1, e2⟩ := q
      rw [h1] at e1; cases e1
      subst e2
      exact ⟨F, .refl, .str _⟩
  stop := fun {Pr S F ι H} W l m cv _ => by
    show x.cps.size ≤ (signs x).length
    unfold signs
    rw [List.length_map, Array.length_toList]; exact Nat.le_refl _
theorem walk_rng {F0 : Hp} {ι0 : List Addr} {lo : Int} {n : Nat} {v : V} {u : D} {Lk} : Walk p (Itr lo n) F0 ι0 v u (rngD lo n) Lk where
  step := fun {i d} hd {Pr S F ι H} W l m cv _ => by
    unfold rngD at hd
    rw [List.getElem?_map] at hd
    obtain ⟨c, h1, h2⟩ := Option.map_eq_some_iff.mp hd
    subst h2
    obtain ⟨h3, h4⟩ := List.getElem?_eq_some_iff.mp h1
    rw [List.length_range] at h3
    rw [List.getElem_range] at h4
    subst h4
    refine ⟨h3, fun y H' q => ?_⟩
    obtain ⟨rfl, rfl⟩ := q
    exact ⟨F, .refl, .int _⟩
  stop := fun {Pr S F ι H} W l m cv _ => by
    show n ≤ (rngD lo n).length
    unfold rngD
    rw [List.length_map, List.length_range]; exact Nat.le_refl _
theorem walk_keysK {F0 : Hp} {ι0 : List Addr} {ad : Addr} {od : Obj} {kvs : List (Key × V)} {es : List (Key × D)} {v : V} {u : D} (e : kvs.map (·.1) = es.map (·.1)) (r : Reps p.K F0 ι0 (kvs.map (·.2)) (es.map (·.2))) :
    Walk p (Itk ad od kvs) F0 ι0 v u (es.map fun e => dK1 e.1) (some (ad, .frz od (.dK kvs))) where
  step := fun {i d} hd {Pr S F ι H} W l m cv lk => by
    rw [List.getElem?_map] at hd
    obtain ⟨⟨key, d'⟩, h1, h2⟩ := Option.map_eq_some_iff.mp hd
    subst h2
    have hl : kvs.length = es.length := by have := congrArg List.length e; simpa using this
    refine ⟨⟨lk, by rw [hl]; exact (List.getElem?_eq_some_iff.mp h1).1⟩, fun x H' q => ?_⟩
    obtain ⟨rfl, key', v', e1, rfl⟩ := q
    obtain ⟨d2, e2, _⟩ := keys_items e r e1
    rw [h1] at e2; cases e2
    exact ⟨F, .refl, dK1_rep _⟩
  stop := fun {Pr S F ι H} W l m cv lk => by
    refine ⟨lk, ?_⟩
    have hl : kvs.length = es.length := by have := congrArg List.length e; simpa using this
    rw [List.length_map, hl]; exact Nat.le_refl _
theorem walk_keysT {F0 : Hp} {ι0 : List Addr} {ad : Addr} {od : Obj} {kvs : List (List Key × V)} {es : List (List Key × D)} {v : V} {u : D} (e : kvs.map (·.1) = es.map (·.1)) (r : Reps p.K F0 ι0 (kvs.map (·.2)) (es.map (·.2))) :
    Walk p (Itkt ad od kvs) F0 ι0 v u (es.map fun e => dT1 e.1) (some (ad, .frz od (.dT kvs))) where
  step := fun {i d} hd {Pr S F ι H} W l m cv lk => by
    rw [List.getElem?_map] at hd
    obtain ⟨⟨key, d'⟩, h1, h2⟩ := Option.map_eq_some_iff.mp hd
    subst h2
    have hl : kvs.length = es.length := by have := congrArg List.length e; simpa using this
    refine ⟨⟨lk, by rw [hl]; exact (List.getElem?_eq_some_iff.mp h1).1⟩, fun x H' q => ?_⟩
    obtain ⟨rfl, key', v', ad2, e1, rfl, e3⟩ := q
    obtain ⟨d2, e2, _⟩ := keys_items e r e1
    rw [h1] at e2; cases e2
    cases hF : F ad2 with
    | some o =>
      have : o = .tup (key.map kV) := by
        rcases W.sub _ _ hF with q | ⟨_, ob, q⟩
        · rw [e3] at q; cases q; rfl
        · rw [e3] at q; cases q
      subst this
      exact ⟨F, .refl, .tup hF (ks_reps key)⟩
    | none =>
      refine ⟨upd F ad2 (.tup (key.map kV)), ⟨LeH.refl _, LeH.upd hF, fun b o q => ?_, fun b ps q => by
        by_cases hb : b = ad2
        · subst hb; rw [upd_same] at q; cases q
        · rw [upd_ne hb] at q; exact q⟩, .tup upd_same (ks_reps key)⟩
      by_cases hb : b = ad2
      · subst hb; rw [upd_same] at q; cases q
        exact .inr ⟨e3, .inr ⟨_, rfl⟩⟩
      · rw [upd_ne hb] at q; exact .inl q
  stop := fun {Pr S F ι H} W l m cv lk => by
    refine ⟨lk, ?_⟩
    have hl : kvs.length = es.length := by have := congrArg List.length e; simpa using this
    rw [List.length_map, hl]; exact Nat.le_refl _
theorem walk_items {F0 : Hp} {ι0 : List Addr} {ad : Addr} {od : Obj} {kvs : List (Key × V)} {es : List (Key × D)} {v : V} {u : D} (e : kvs.map (·.1) = es.map (·.1)) (r : Reps p.K F0 ι0 (kvs.map (·.2)) (es.map (·.2))) :
    Walk p (Iti ad od kvs) F0 ι0 v u (es.map fun e => .tup [dK1 e.1, e.2]) (some (ad, .frz od (.dK kvs))) where
  step := fun {i d} hd {Pr S F ι H} W l m cv lk => by
    rw [List.getElem?_map] at hd
    obtain ⟨⟨key, d'⟩, h1, h2⟩ := Option.map_eq_some_iff.mp hd
    subst h2
    have hl : kvs.length = es.length := by have := congrArg List.length e; simpa using this
    refine ⟨⟨lk, by rw [hl]; exact (List.getElem?_eq_some_iff.mp h1).1⟩, fun x H' q => ?_⟩
    obtain ⟨T, key', v', e1, rfl, hT, rfl⟩ := q
    obtain ⟨d2, e2, rv⟩ := keys_items e r e1
    rw [h1] at e2; cases e2
    have hF := W.fresh hT
    have gr : Grow F H (upd F T (.tup [kV key, v'])) (upd H T (.tup [kV key, v'])) := .one hF hT
    exact ⟨_, gr, .tup upd_same (.cons (dK1_rep _) (.cons ((rv.le l m).le gr.f (LeA.refl _)) .nil))⟩
  stop := fun {Pr S F ι H} W l m cv lk => by
    refine ⟨lk, ?_⟩
    have hl : kvs.length = es.length := by have := congrArg List.length e; simpa using this
    rw [List.length_map, hl]; exact Nat.le_refl _

theorem lock_flat {ρ : Env'} {S S2 : Store} {w : Hd} {u : D} {lk : Option (Nat × D)} (h : isDct (some u) = false) (c : cont ρ S w = some u) (e : lockS ρ S w = some (S2, lk)) : S2 = S ∧ lk = none := by
  cases w with
  | slot i =>
    simp only [cont] at c
    simp only [lockS] at e
    split at e
    · cases e; exact ⟨rfl, rfl⟩
    · cases e
  | val v =>
    cases v <;> first
      | (simp only [lockS] at e; cases e; exact ⟨rfl, rfl⟩)
      | (simp only [cont] at c
         simp only [lockS] at e
         split at c
         · rename_i hc; rw [hc] at e; cases c
           cases u <;> first | (cases e; exact ⟨rfl, rfl⟩) | cases h
         · rename_i hc; rw [hc] at e; cases e; exact ⟨rfl, rfl⟩
         · cases c)
end
end Z

set_option Elab.async false
set_option linter.all false
set_option maxRecDepth 100000
set_option maxHeartbeats 4000000
namespace Z
open PySem PySem.Spec PyProof.Rows L2
section
variable {p : Pg} {N : List Str} {sc : Scope} {fn : Str → Bool} {k : Nat} {X : Cx} {G : Fns} {ρ : Env'} {S : Store} {e ea eb ec tg : Expr} {pos : Pos} {a b c : Ex}
theorem fi_seq (g : Good p N sc fn k X) (ha : FH p X ρ S ea (hOf a ρ S (evE G a ρ S))) : FI p X ρ S tg ea (evI G (.seq a) ρ S) := by
  intro Pr F ι α σ H R w xs S1 e S2 lk el P q
  rw [evI] at e
  obtain ⟨⟨h1, S1'⟩, e1, e⟩ := Option.bind_eq_some_iff.mp e
  obtain ⟨u, e2, e⟩ := Option.bind_eq_some_iff.mp e
  obtain ⟨ys, e3, e4⟩ := Option.map_eq_some_iff.mp e
  cases e4
  by_cases hd : isDct (some u) = true
  · refine wI_of (pi_keys peW) (wE_lock (ha Pr F ι α σ H R _ _ e1 _ fun x F1 ι1 H1 R1 l1 m1 r1 => ?_))
    obtain ⟨c, o, rfl, dob, hh⟩ := lock_ok (X := X) R1 r1 e2 hd el
    cases u <;> try cases hd
    · rename_i es
      obtain ⟨kvs, rfl, k1, k2⟩ := dob
      cases e3
      rcases hh with ⟨od, ho, R2, c2, fo, sb⟩ | ⟨ho, hh⟩
      · exact .inl ⟨c, od, rfl, .inl ⟨kvs, ho, q _ _ _ _ F1 ι1 H1 R2 l1 m1 r1 c2 (walk_keysK k1 k2) fo sb⟩⟩
      · refine .inr ⟨c, _, ho, trivial, fun od nf => ?_⟩
        obtain ⟨R2, c2, fo, sb⟩ := hh od nf
        exact ⟨c, od, rfl, .inl ⟨kvs, upd_same, q _ _ _ _ F1 ι1 _ R2 l1 m1 r1 c2 (walk_keysK k1 k2) fo sb⟩⟩
    · rename_i es
      obtain ⟨kvs, rfl, k1, k2⟩ := dob
      cases e3
      rcases hh with ⟨od, ho, R2, c2, fo, sb⟩ | ⟨ho, hh⟩
      · exact .inl ⟨c, od, rfl, .inr ⟨kvs, ho, q _ _ _ _ F1 ι1 H1 R2 l1 m1 r1 c2 (walk_keysT k1 k2) fo sb⟩⟩
      · refine .inr ⟨c, _, ho, trivial, fun od nf => ?_⟩
        obtain ⟨R2, c2, fo, sb⟩ := hh od nf
        exact ⟨c, od, rfl, .inr ⟨kvs, upd_same, q _ _ _ _ F1 ι1 _ R2 l1 m1 r1 c2 (walk_keysT k1 k2) fo sb⟩⟩
  · have hd : isDct (some u) = false := by simpa using hd
    obtain ⟨rfl, rfl⟩ := lock_flat hd e2 el
    cases u <;> try cases hd
    · cases e3
    · cases e3
    · cases e3
    · simp only [itemsIn] at e3
      split at e3
      · cases e3
        refine wI_of (pi_str peW) (ha Pr F ι α σ H R _ _ e1 _ fun x F1 ι1 H1 R1 l1 m1 r1 => ?_)
        have cv := cv_of R1 r1 e2
        cases cv
        exact ⟨_, rfl, q _ _ _ none F1 ι1 H1 R1 l1 m1 r1 e2 walk_str free_none fun _ _ z => z⟩
      · cases e3
    · cases e3
      refine wI_of (pi_list peW) (ha Pr F ι α σ H R _ _ e1 _ fun x F1 ι1 H1 R1 l1 m1 r1 => ?_)
      obtain ⟨c, vs, rfl, q1, q2⟩ := cv_of R1 r1 e2
      exact ⟨c, rfl, ⟨vs, by rw [g.K]; exact q1⟩, q _ _ _ none F1 ι1 H1 R1 l1 m1 r1 e2 (walk_lst g.K) free_none fun _ _ z => z⟩
    · cases e3
      refine wI_of (pi_tup peW) (ha Pr F ι α σ H R _ _ e1 _ fun x F1 ι1 H1 R1 l1 m1 r1 => ?_)
      obtain ⟨c, vs, rfl, q1, q2⟩ := cv_of R1 r1 e2
      exact ⟨c, rfl, ⟨vs, q1.sq⟩, q _ _ _ none F1 ι1 H1 R1 l1 m1 r1 e2 (walk_tup g.K) free_none fun _ _ z => z⟩
    · cases e3
    · cases e3
      refine wI_of (pi_tup peW) (ha Pr F ι α σ H R _ _ e1 _ fun x F1 ι1 H1 R1 l1 m1 r1 => ?_)
      obtain ⟨c, vs, rfl, q1, q2⟩ := cv_of R1 r1 e2
      exact ⟨c, rfl, ⟨vs, .inl q1⟩, q _ _ _ none F1 ι1 H1 R1 l1 m1 r1 e2 (walk_ctup g.K) free_none fun _ _ z => z⟩
theorem smallI_ok {i : Int} (h : smallI i = true) : -(2 ^ 62) ≤ i ∧ i < 2 ^ 62 := by
  unfold smallI at h
  simpa using h
theorem fi_rng {pp : Pos} (g : Good p N sc fn k X) (hg : sc.names.lookup ("range" : Str) = some .globalImplicit) (hm : p.mg "range" = none) (hs : isStar ea = false) (ha : ∀ S, FE p X ρ S ea (evE G a ρ S)) : FI p X ρ S tg (.Call (.Name "range" pp) [ea] [] pos) (evI G (.rng a) ρ S) := by
  intro Pr F ι α σ H R w xs S1 e S2 lk el P q
  rw [evI] at e
  obtain ⟨⟨u, S1'⟩, e1, e⟩ := Option.bind_eq_some_iff.mp e
  obtain ⟨j, e2, e⟩ := Option.bind_eq_some_iff.mp e
  split at e
  · rename_i hj
    cases e
    cases intOf_eq e2
    simp only [lockS] at el
    cases el
    have hG : Gl X "range" := by show X.env.scope.names.lookup _ = _; rw [g.sc]; exact hg
    have hM : X.mg "range" = none := by rw [← hm, ← g.pg]; rfl
    have fa : FA p X ρ S [ea] (evA G (.cons a .nil) ρ S) := fa_cons hs (ha S) fun S => fa_nil
    refine wI_of (pi_range1 hG hM paW (star_cons hs)) (fa Pr F ι α σ H R [.int j] S2 (by simp [evA, e1]) _ fun vs F1 ι1 H1 R1 l1 m1 rs => ?_)
    cases rs with
    | cons r1 r2 =>
    cases r2
    cases r1
    obtain ⟨h1, h2⟩ := smallI_ok hj
    exact ⟨j, rfl, h1, h2, q _ .non .non none F1 ι1 H1 R1 l1 m1 (show Rep p.K F1 ι1 .non .non from .non) rfl walk_rng free_none fun _ _ z => z⟩
  · cases e
theorem fi_rng2 {pp : Pos} (g : Good p N sc fn k X) (hg : sc.names.lookup ("range" : Str) = some .globalImplicit) (hm : p.mg "range" = none) (hs : isStar ea = false) (hs2 : isStar eb = false) (ha : ∀ S, FE p X ρ S ea (evE G a ρ S)) (hb : ∀ S, FE p X ρ S eb (evE G b ρ S)) :
    FI p X ρ S tg (.Call (.Name "range" pp) [ea, eb] [] pos) (evI G (.rng2 a b) ρ S) := by
  intro Pr F ι α σ H R w xs S1 e S2 lk el P q
  rw [evI] at e
  obtain ⟨⟨u, S1'⟩, e1, e⟩ := Option.bind_eq_some_iff.mp e
  obtain ⟨⟨u2, S2'⟩, e3, e⟩ := Option.bind_eq_some_iff.mp e
  obtain ⟨i, e2, e⟩ := Option.bind_eq_some_iff.mp e
  obtain ⟨j, e4, e⟩ := Option.bind_eq_some_iff.mp e
  split at e
  · rename_i hj
    cases e
    cases intOf_eq e2
    cases intOf_eq e4
    simp only [lockS] at el
    cases el
    have hG : Gl X "range" := by show X.env.scope.names.lookup _ = _; rw [g.sc]; exact hg
    have hM : X.mg "range" = none := by rw [← hm, ← g.pg]; rfl
    have fa : FA p X ρ S [ea, eb] (evA G (.cons a (.cons b .nil)) ρ S) := fa_cons hs (ha S) fun S => fa_cons hs2 (hb S) fun S => fa_nil
    refine wI_of (pi_range2 hG hM paW ((star_cons hs).trans (by rw [star_cons hs2]; rfl)) (star_cons hs2)) (fa Pr F ι α σ H R [.int i, .int j] S2 (by simp [evA, e1, e3]) _ fun vs F1 ι1 H1 R1 l1 m1 rs => ?_)
    cases rs with
    | cons r1 r2 =>
    cases r2 with
    | cons r2 r3 =>
    cases r3
    cases r1
    cases r2
    rw [Bool.and_eq_true] at hj
    obtain ⟨h1, h2⟩ := smallI_ok hj.1
    obtain ⟨h3, h4⟩ := smallI_ok hj.2
    exact ⟨i, j, rfl, ⟨h1, h2, h3, h4⟩, q _ .non .non none F1 ι1 H1 R1 l1 m1 (show Rep p.K F1 ι1 .non .non from .non) rfl walk_rng free_none fun _ _ z => z⟩
  · cases e
theorem fi_items {elts : List Expr} {kk : Nat} {tpos apos : Pos} (hb : attributeBase ea "items" X.env (eval ea X.env) = eval ea X.env) (hl : (apos.endLine == pos.line) = true) (ha : FH p X ρ S ea (hOf a ρ S (evE G a ρ S))) :
    FI p X ρ S (.Tuple elts kk tpos) (.Call (.Attribute ea "items" apos) [] [] pos) (evI G (.items a) ρ S) := by
  intro Pr F ι α σ H R w xs S1 e S2 lk el P q
  rw [evI] at e
  obtain ⟨⟨h1, S1'⟩, e1, e⟩ := Option.bind_eq_some_iff.mp e
  obtain ⟨u, e2, e⟩ := Option.bind_eq_some_iff.mp e
  obtain ⟨ys, e3, e4⟩ := Option.map_eq_some_iff.mp e
  cases e4
  cases u <;> try cases e3
  rename_i es
  refine wI_of (pi_items peW hb hl) (wE_lock (ha Pr F ι α σ H R _ _ e1 _ fun x F1 ι1 H1 R1 l1 m1 r1 => ?_))
  obtain ⟨c, o, rfl, dob, hh⟩ := lock_ok (X := X) R1 r1 e2 rfl el
  obtain ⟨kvs, rfl, k1, k2⟩ := dob
  rcases hh with ⟨od, ho, R2, c2, fo, sb⟩ | ⟨ho, hh⟩
  · exact .inl ⟨c, od, kvs, rfl, ho, q _ _ _ _ F1 ι1 H1 R2 l1 m1 r1 c2 (walk_items k1 k2) fo sb⟩
  · refine .inr ⟨c, _, ho, trivial, fun od nf => ?_⟩
    obtain ⟨R2, c2, fo, sb⟩ := hh od nf
    exact ⟨c, od, kvs, rfl, upd_same, q _ _ _ _ F1 ι1 _ R2 l1 m1 r1 c2 (walk_items k1 k2) fo sb⟩
end
/-! # targets -/
def setAll (ρ : Env') (l : List (Nat × D)) : Env' := l.foldl (fun ρ p => ρ.set p.1 (.fz p.2)) ρ
def wG (X : Cx) (tg : Expr) : TG := fun v σ H Q => ∀ pins s u, Inv X pins σ H s → RelV v u → wpAny (model X.prog X.w) X.A (assign tg X.env u) (fun _ s' => ∃ σ' H', Inv X pins σ' H' s' ∧ Q σ' H') X.xe s
theorem pgW {X : Cx} {tg : Expr} : PG X tg (wG X tg) := ⟨fun pins s _ _ _ u _ I r h => h pins s u I r⟩
/-- a target of a for or a comprehension -/
def FG (p : Pg) (X : Cx) (t : Tg) (tg : Expr) : Prop := ∀ {Pr ρ S F ι α σ H}, Rel p Pr ρ S F ι α σ H → ∀ {v d ρ'}, Rep p.K F ι v d → bindT t d ρ = some ρ' → ∀ Q : L2.St → Hp → Prop,
  (∀ σ', Rel p Pr ρ' S F ι α σ' H → (∀ vs, (∀ i ∈ t.ix, i ∈ vs) → wipe σ' vs = wipe σ vs) → Q σ' H) → wG X tg v σ H Q
theorem set_set_comm' {β : Type} (l : List β) {i j : Nat} (h : i ≠ j) (x y : β) : (l.set i x).set j y = (l.set j y).set i x := by
  apply List.ext_getElem?
  intro n
  simp only [List.getElem?_set, List.length_set]
  by_cases h1 : j = n <;> by_cases h2 : i = n <;> simp_all
theorem wipe_set {σ : L2.St} {i : Nat} {v : Option V} : ∀ {vs : List Nat}, i ∈ vs → wipe (σ.set i v) vs = wipe σ vs
  | x :: vs, h => by
    show (wipe (σ.set i v) vs).set x none = (wipe σ vs).set x none
    by_cases hi : i ∈ vs
    · rw [wipe_set hi]
    · have hx : i = x := by
        rcases List.mem_cons.mp h with h | h
        · exact h
        · exact absurd h hi
      subst hx
      have : ∀ vs : List Nat, i ∉ vs → wipe (σ.set i v) vs = (wipe σ vs).set i v := by
        intro vs
        induction vs with
        | nil => intro _; rfl
        | cons y vs ih =>
          intro hn
          show (wipe (σ.set i v) vs).set y none = ((wipe σ vs).set y none).set i v
          rw [ih (fun z => hn (List.mem_cons_of_mem _ z)), set_set_comm' _ (fun z => hn (by rw [z]; exact List.mem_cons_self))]
      rw [this vs hi, List.set_set]
theorem fg_nm {p : Pg} {N : List Str} {sc : Scope} {fn : Str → Bool} {k : Nat} {X : Cx} {i : Nat} {x : Str} {pos : Pos} (g : Good p N sc fn k X) (hN : N[i]? = some x) (hl : Loc sc x) (hf : fn x = true ∨ sc.names.lookup x = some .local) : FG p X (.nm i) (.Name x pos) := by
  intro Pr ρ S F ι α σ H R v d ρ' r e Q q pins s u I rv
  cases e
  exact (pg_name (i := i) (by rw [g.hN]; exact g.nd) (by rw [g.hN]; exact hN) (by rw [g.sc]; exact hl) (by rw [g.fn, g.sc]; exact hf)).run pins s σ H v u Q I rv (q _ (R.setFz r) fun vs h => wipe_set (h i (by simp [Tg.ix])))
/-- names of a tuple target -/
def NmOk (N : List Str) (sc : Scope) (fn : Str → Bool) : List Nat → List Expr → Prop
  | [], [] => True
  | i :: is, .Name x _ :: es => N[i]? = some x ∧ Loc sc x ∧ (fn x = true ∨ sc.names.lookup x = some .local) ∧ NmOk N sc fn is es
  | _, _ => False
theorem fg_all {p : Pg} {N : List Str} {sc : Scope} {fn : Str → Bool} {k : Nat} {X : Cx} (g : Good p N sc fn k X) : ∀ {is : List Nat} {es : List Expr}, NmOk N sc fn is es → (assignEach es X.env).findIdx? (·.1) = none ∧ (assignEach es X.env).length = is.length ∧
    ∃ t, PGs X es t ∧ ∀ {Pr ρ S F ι α σ H}, Rel p Pr ρ S F ι α σ H → ∀ {vs ds}, Reps p.K F ι vs ds → ds.length = is.length → ∀ Q : L2.St → Hp → Prop,
      (∀ σ', Rel p Pr (setAll ρ (is.zip ds)) S F ι α σ' H → (∀ vs, (∀ i ∈ is, i ∈ vs) → wipe σ' vs = wipe σ vs) → Q σ' H) → t vs σ H Q
  | [], [], _ => ⟨rfl, rfl, _, pgs_nil, fun {Pr ρ S F ι α σ H} R vs ds r hl Q q => by
    cases r with
    | nil => exact ⟨rfl, q σ R fun _ _ => rfl⟩
    | cons _ _ => cases hl⟩
  | i :: is, e :: es, h => by
    cases e <;> try exact h.elim
    rename_i x ps
    obtain ⟨hN, hl, hf, hr⟩ := h
    obtain ⟨h1, h2, t, pt, ht⟩ := fg_all g hr
    have hg : FG p X (.nm i) (.Name x ps) := fg_nm g hN hl hf
    have hst : assignEach (.Name x ps :: es) X.env = (false, assign (.Name x ps) X.env) :: assignEach es X.env := rfl
    refine ⟨?_, ?_, _, pgs_cons pgW pt, fun {Pr ρ S F ι α σ H} R vs ds r hl Q q => ?_⟩
    · rw [hst, List.findIdx?_cons]
      simp [h1]
    · rw [hst, List.length_cons, h2]; rfl
    · cases r with
      | nil => cases hl
      | @cons v d vs ds r1 r2 =>
      refine ⟨v, vs, rfl, hg R (ρ' := ρ.set i (.fz d)) r1 rfl _ fun σ' R' w1 => ht R' r2 (by simpa using hl) _ fun σ2 R2 w2 => ?_⟩
      refine q σ2 R2 fun ws hw => ?_
      rw [w2 ws fun j hj => hw j (List.mem_cons_of_mem _ hj), w1 ws fun j hj => ?_]
      have : j = i := by simpa [Tg.ix] using hj
      rw [this]; exact hw i List.mem_cons_self
  | [], _ :: _, h => h.elim
  | _ :: _, [], h => h.elim
theorem fg_nms {p : Pg} {N : List Str} {sc : Scope} {fn : Str → Bool} {k : Nat} {X : Cx} {is : List Nat} {es : List Expr} {kk : Nat} {pos : Pos} (g : Good p N sc fn k X) (h : NmOk N sc fn is es) : FG p X (.nms is) (.Tuple es kk pos) := by
  obtain ⟨h1, h2, t, pt, ht⟩ := fg_all g h
  intro Pr ρ S F ι α σ H R v d ρ' r e Q q pins s u I rv
  refine (pg_tup g.calm pt h2 h1).run pins s σ H v u Q I rv ?_
  simp only [bindT] at e
  split at e
  · rename_i ds
    split at e
    · rename_i hl
      cases e
      cases r with
      | @tup a vs ds f rs =>
      exact ⟨a, vs, rfl, (R.wd.sub _ _ f).tup.sq, by rw [rs.length, hl], ht R rs hl _ fun σ' R' w => q σ' R' w⟩
    · cases e
  · rename_i ds
    split at e
    · rename_i hl
      cases e
      cases r with
      | @ctup a vs ds f rs =>
      exact ⟨a, vs, rfl, .inl (rd_sub R.wd.sub f), by rw [rs.length, hl], ht R rs hl _ fun σ' R' w => q σ' R' w⟩
    · cases e
  · cases e

/-! # comprehensions -/
section
variable {p : Pg} {Pr : Hp} {ρ : Env'} {S : Store} {F : Hp} {ι : List Addr} {α : Nat → Addr} {σ : L2.St} {H : Hp} {a : Addr} {d : D}
theorem wipeS_at {ρ : Env'} {j : Nat} {x : Slot} : ∀ {is : List Nat}, (wipeS ρ is)[j]? = some x → (j ∉ is ∧ ρ[j]? = some x) ∨ x = .un
  | [], h => .inl ⟨by simp, h⟩
  | i :: is, h => by
    have h : ((wipeS ρ is).set i .un)[j]? = some x := h
    rcases getElem?_set_slot h with ⟨_, _, z⟩ | ⟨ne, h⟩
    · exact .inr z
    · rcases wipeS_at h with ⟨h1, h2⟩ | h
      · exact .inl ⟨fun z => by
          rcases List.mem_cons.mp z with z | z
          · exact ne z.symm
          · exact h1 z, h2⟩
      · exact .inr h
theorem wipeS_out {ρ : Env'} {j : Nat} : ∀ {is : List Nat}, j ∉ is → (wipeS ρ is)[j]? = ρ[j]?
  | [], _ => rfl
  | i :: is, h => by
    show ((wipeS ρ is).set i .un)[j]? = _
    rw [List.getElem?_set_ne fun z => h (by rw [← z]; exact List.mem_cons_self)]
    exact wipeS_out fun z => h (List.mem_cons_of_mem _ z)
theorem wipeS_len {ρ : Env'} : ∀ {is : List Nat}, (wipeS ρ is).length = ρ.length
  | [] => rfl
  | i :: is => by
    show ((wipeS ρ is).set i .un).length = _
    rw [List.length_set, wipeS_len]
theorem wipe_out {σ : L2.St} {j : Nat} : ∀ {is : List Nat}, j ∉ is → (wipe σ is)[j]? = σ[j]?
  | [], _ => rfl
  | i :: is, h => by
    show ((wipe σ is).set i none)[j]? = _
    rw [List.getElem?_set_ne fun z => h (by rw [← z]; exact List.mem_cons_self)]
    exact wipe_out fun z => h (List.mem_cons_of_mem _ z)
theorem wipe_in {σ : L2.St} {j : Nat} : ∀ {is : List Nat}, j ∈ is → (wipe σ is)[j]? = if j < σ.length then some none else none
  | i :: is, h => by
    show ((wipe σ is).set i none)[j]? = _
    rw [List.getElem?_set, wipe_length]
    by_cases e : i = j
    · subst e; simp
    · rw [if_neg e]
      exact wipe_in (by
        rcases List.mem_cons.mp h with h | h
        · exact absurd h.symm e
        · exact h)
theorem wipe_wipe (σ : L2.St) (is : List Nat) : wipe (wipe σ is) is = wipe σ is := by
  apply List.ext_getElem?
  intro j
  by_cases h : j ∈ is
  · rw [wipe_in h, wipe_in h, wipe_length]
  · rw [wipe_out h]
theorem Rel.wipe (R : Rel p Pr ρ S F ι α σ H) (is : List Nat) : Rel p Pr (wipeS ρ is) S F ι α (L2.wipe σ is) H where
  wd := R.wd
  fz := fun i d h => by
    rcases wipeS_at h with ⟨h1, h2⟩ | h
    · rw [wipe_out h1]; exact R.fz i d h2
    · cases h
  own := fun i d h => by
    rcases wipeS_at h with ⟨h1, h2⟩ | h
    · rw [wipe_out h1]; exact R.own i d h2
    · cases h
  lng := by rw [wipeS_len, wipe_length]; exact R.lng
  inj := fun i j d e h1 h2 z => by
    rcases wipeS_at h1 with ⟨_, h1⟩ | h1
    · rcases wipeS_at h2 with ⟨_, h2⟩ | h2
      · exact R.inj i j d e h1 h2 z
      · cases h2
    · cases h1
theorem noOwn_ok {is : List Nat} (h : noOwn ρ is = true) {i : Nat} {e : D} (he : ρ[i]? = some (.own e)) : i ∉ is := fun hi => by
  unfold noOwn at h
  have := List.all_eq_true.mp h i hi
  rw [he] at this
  cases this
theorem setAll_out {j : Nat} : ∀ {l : List (Nat × D)} {ρ : Env'}, (∀ q ∈ l, q.1 ≠ j) → (setAll ρ l)[j]? = ρ[j]?
  | [], _, _ => rfl
  | q :: l, ρ, h => by
    show (setAll (ρ.set q.1 (.fz q.2)) l)[j]? = _
    rw [setAll_out fun r hr => h r (List.mem_cons_of_mem _ hr), List.getElem?_set_ne (h q List.mem_cons_self)]
theorem bindT_own {t : Tg} {ρ' : Env'} {v e : D} (h : bindT t v (wipeS ρ t.ix) = some ρ') (no : noOwn ρ t.ix = true) {i : Nat} (he : ρ[i]? = some (.own e)) : ρ'[i]? = some (.own e) := by
  have hi := noOwn_ok no he
  cases t with
  | nm j =>
    cases h
    have hi : i ∉ [j] := hi
    rw [List.getElem?_set_ne fun z => hi (by simp [z])]
    show (wipeS ρ [j])[i]? = _
    rw [wipeS_out hi]; exact he
  | nms js =>
    simp only [bindT] at h
    split at h
    · split at h
      · cases h
        rename_i ds _
        have := setAll_out (l := js.zip ds) (ρ := wipeS ρ js) (j := i) fun q hq z => hi (by
          rw [← z]
          exact (List.of_mem_zip hq).1)
        show (setAll (wipeS ρ js) (js.zip ds))[i]? = _
        rw [this]; exact (wipeS_out (is := js) hi).trans he
      · cases h
    · split at h
      · cases h
        rename_i ds _
        have := setAll_out (l := js.zip ds) (ρ := wipeS ρ js) (j := i) fun q hq z => hi (by
          rw [← z]
          exact (List.of_mem_zip hq).1)
        show (setAll (wipeS ρ js) (js.zip ds))[i]? = _
        rw [this]; exact (wipeS_out (is := js) hi).trans he
      · cases h
    · cases h
/-- behind a block: the names as they were -/
theorem Rel.join {ρ' : Env'} {S' : Store} {F' : Hp} {ι' : List Addr} {σ' : L2.St} {H' : Hp} {Pr0 : Hp} (R : Rel p Pr0 ρ S F ι α σ H) (R' : Rel p Pr ρ' S' F' ι' α σ' H') (l : LeH F F') (m : LeA ι ι') (h : ∀ (i : Nat) (e : D), ρ[i]? = some (Slot.own e) → ρ'[i]? = some (Slot.own e)) : Rel p Pr ρ S' F' ι' α σ H' where
  wd := R'.wd
  fz := fun i d k => let ⟨v, h1, h2⟩ := R.fz i d k; ⟨v, h1, h2.le l m⟩
  own := fun i d k => by
    obtain ⟨_, h2, h3, h4, h5⟩ := R'.own i d (h i d k)
    exact ⟨(R.own i d k).1, h2, h3, h4, h5⟩
  lng := R.lng
  inj := R.inj
/-- what is guarded as a list is nothing else's -/
theorem Rel.alone {vs : List V} (R : Rel p (upd Pr a (.lst vs)) ρ S F ι α σ H) : H a = some (.lst vs) ∧ F a = none ∧ a ∉ ι ∧ ∀ j e, ρ[j]? = some (.own e) → α j ≠ a := by
  obtain ⟨h1, h2, h3⟩ := R.wd.prot a _ upd_same
  refine ⟨h1, h2.resolve_right id, fun hm => ?_, fun j e hj z => ?_⟩
  · obtain ⟨n, hn⟩ := List.getElem?_of_mem hm
    have hl : n < S.length := by rw [← R.wd.len]; exact (List.getElem?_eq_some_iff.mp hn).1
    obtain ⟨d, hd⟩ := h3 n S[n] hn (List.getElem?_eq_getElem hl)
    obtain ⟨_, q⟩ := R.wd.cell n S[n] a (List.getElem?_eq_getElem hl) hn
    rw [hd] at q
    obtain ⟨ob, o, q⟩ := LRep.there q
    rw [h1] at q; cases q
  · have := (R.own j e hj).2.2.2.2
    rw [z, upd_same] at this; cases this
theorem Rel.reguard {vs ws : List V} (R : Rel p (upd Pr a (.lst vs)) ρ S F ι α σ H) : Rel p (upd Pr a (.lst ws)) ρ S F ι α σ (upd H a (.lst ws)) := by
  obtain ⟨h1, h2, h3, h4⟩ := R.alone
  exact {
    wd := {
      sub := fun b u e => by
        have hb : b ≠ a := fun z => by rw [z, h2] at e; cases e
        rcases R.wd.sub b u e with h | ⟨k, ob, h⟩
        · exact .inl (by rw [upd_ne hb]; exact h)
        · exact .inr ⟨k, ob, by rw [upd_ne hb]; exact h⟩
      con := R.wd.con
      len := R.wd.len
      tab := ⟨tabs_upd R.wd.tab.t h1 id, R.wd.tab.f, fun b ps e => by
        by_cases hb : b = a
        · subst hb; rw [upd_same] at e; cases e
        · rw [upd_ne hb] at e; exact R.wd.tab.p b ps (by rw [upd_ne hb]; exact e)⟩
      nd := R.wd.nd
      cell := fun m c' b k1 k2 => by
        obtain ⟨q1, q2⟩ := R.wd.cell m c' b k1 k2
        exact ⟨q1, q2.le (LeH.refl _) (LeA.refl _) (upd_ne fun z => h3 (by rw [← z]; exact List.mem_of_getElem? k2))⟩
      prot := fun b u h => by
        by_cases hb : b = a
        · subst hb
          rw [upd_same] at h; cases h
          exact ⟨upd_same, .inl h2, fun n c k _ => absurd (List.mem_of_getElem? k) h3⟩
        · rw [upd_ne hb] at h
          obtain ⟨q1, q2, q3⟩ := R.wd.prot b u (by rw [upd_ne hb]; exact h)
          exact ⟨by rw [upd_ne hb]; exact q1, q2, q3⟩ }
    fz := R.fz
    own := fun i d h => by
      obtain ⟨k1, k2, k3, k4, k5⟩ := R.own i d h
      exact ⟨k1, k2, k3, k4.le (LeH.refl _) (LeA.refl _) (upd_ne (h4 i d h)), by rw [upd_ne (h4 i d h)] at k5 ⊢; exact k5⟩
    lng := R.lng
    inj := R.inj }
end

section
variable {p : Pg} {N : List Str} {sc : Scope} {fn : Str → Bool} {k : Nat} {X : Cx} {G : Fns} {ρ : Env'} {S : Store} {tg iter elt : Expr} {pos : Pos}
abbrev blkX (X : Cx) (scope : Scope) (s : Shared) (H : Hp) (C : Addr) (cl : List (Str × Addr)) (fp : List Addr) : Cx := X.blk s H scope (compEnvC scope cl C X.env) fp
abbrev fnB (scope : Scope) : Str → Bool := fun x => scope.names.lookup x == some .cell
theorem good_blk {scope : Scope} (g : Good p N sc fn k X) (s : Shared) (H : Hp) (C : Addr) (cl : List (Str × Addr)) (fp : List Addr) : Good p N (relS scope sc) (fnB scope) k (blkX X scope s H C cl fp) where
  pg := g.pg
  calm := g.calm
  hN := g.hN
  nd := g.nd
  sc := by
    show relabel scope X.env = _
    unfold relabel relS Env.kindOf
    rw [g.sc]
  fn := rfl
  xe := rfl
  room := g.room
  grd := g.grd
  lam := g.lam
/-- one filter or none -/
inductive FC (p : Pg) (G : Fns) : (∀ _ : Cx, Prop) → List Expr → Ar → Prop
  | nil {B : Cx → Prop} : FC p G B [] .nil
  | one {B : Cx → Prop} {e : Expr} {c : Ex} : (∀ X, B X → ∀ ρ S, FT p X ρ S e (evE G c ρ S)) → FC p G B [e] (.cons c .nil)
theorem comp_core {scope : Scope} {t : Tg} {it : It} {c : Ar} {e : Ex} {ifs : List Expr} {own : List (Str × Nat)} (g : Good p N sc fn k X) (hi : FI p X ρ S tg iter (evI G it ρ S)) (ok : BlkOk N sc scope own) (hix : own.map (·.2) = t.ix)
    (hg : ∀ X', Good p N (relS scope sc) (fnB scope) k X' → FG p X' t tg) (hc : FC p G (Good p N (relS scope sc) (fnB scope) k) ifs c) (he : ∀ X', Good p N (relS scope sc) (fnB scope) k X' → ∀ ρ S, FE p X' ρ S elt (evE G e ρ S)) :
    ∃ gT tt tE, (∀ s H0 C cl fp, PG (blkX X scope s H0 C cl fp) tg gT) ∧ (∀ s H0 C cl fp, PTs (blkX X scope s H0 C cl fp) ifs tt) ∧ (∀ s H0 C cl fp, PE (blkX X scope s H0 C cl fp) elt tE) ∧
      ∀ Pr F ι α σ H, Rel p Pr ρ S F ι α σ H → ∀ d S', evE G (.comp t it c e) ρ S = some (d, S') → ∀ Q : VK, (∀ a F' ι' H', Rel p Pr ρ S' F' ι' α σ H' → LeH F F' → LeA ι ι' → Fr p Pr ρ F' ι' α H' a d → Q (.ref a) H') →
        tLc (wI X tg iter) gT tt tE (own.map (·.2)) σ H fun x H1 => Unl X (Q x) H1 := by
  have hN : X.N.Nodup := by rw [g.hN]; exact g.nd
  have gB := fun s H C cl fp => good_blk (scope := scope) g s H C cl fp
  have okX : BlkOk X.N X.env.scope scope own := by rw [g.hN, g.sc]; exact ok
  -- the readings over all blocks
  let gT : TG := fun v σ H Q => ∀ s H0 C cl fp, wG (blkX X scope s H0 C cl fp) tg v σ H Q
  let tE : TE := fun σ H Q => ∀ s H0 C cl fp, wE (blkX X scope s H0 C cl fp) elt σ H Q
  have pg : ∀ s H0 C cl fp, PG (blkX X scope s H0 C cl fp) tg gT := fun s H0 C cl fp => ⟨fun pins s' σ H v u Q I r h => pgW.run pins s' σ H v u Q I r (h s H0 C cl fp)⟩
  have pe : ∀ s H0 C cl fp, PE (blkX X scope s H0 C cl fp) elt tE := fun s H0 C cl fp => ⟨fun pins s' σ H Q I h => peW.run pins s' σ H Q I (h s H0 C cl fp)⟩
  have ct : ∃ tt : TT, (∀ s H0 C cl fp, PTs (blkX X scope s H0 C cl fp) ifs tt) ∧ ∀ {Pr ρ' S F ι α σ H}, Rel p Pr ρ' S F ι α σ H → ∀ {b S'}, (match (motive := Ar → Option (Bool × Store)) c with
        | .nil => some (true, S)
        | .cons c _ => (evE G c ρ' S).bind fun q => (blOf q.1).map fun b => (b, q.2)) = some (b, S') →
      ∀ Q : Bool → Hp → Prop, (∀ F' ι' H', Rel p Pr ρ' S' F' ι' α σ H' → LeH F F' → LeA ι ι' → Q b H') → tt σ H Q := by
    cases hc with
    | nil =>
      refine ⟨tYes, fun s H0 C cl fp => pts_nil, fun {Pr ρ' S F ι α σ H} R b S' e Q q => ?_⟩
      cases e
      exact q F ι H R (LeH.refl _) (LeA.refl _)
    | @one e' c' h =>
      refine ⟨fun σ H Q => ∀ s H0 C cl fp, wT (blkX X scope s H0 C cl fp) e' σ H Q, fun s H0 C cl fp => pts_one ⟨fun pins s' σ H Q I h => ptW.run pins s' σ H Q I (h s H0 C cl fp)⟩, fun {Pr ρ' S F ι α σ H} R b S' e Q q s H0 C cl fp => ?_⟩
      obtain ⟨⟨u, S5⟩, h1, h2⟩ := Option.bind_eq_some_iff.mp e
      obtain ⟨b', h3, h4⟩ := Option.map_eq_some_iff.mp h2
      cases h4
      cases blOf_eq h3
      exact h _ (gB s H0 C cl fp) ρ' S Pr F ι α σ H R _ _ h1 Q q
  obtain ⟨tt, pt, ht⟩ := ct
  refine ⟨gT, tt, tE, pg, pt, pe, ?_⟩
  intro Pr F ι α σ H R d S' er Q q
  rw [evE] at er
  split at er
  case isFalse => cases er
  rename_i no
  obtain ⟨⟨w, xs, S1⟩, e1, er⟩ := Option.bind_eq_some_iff.mp er
  obtain ⟨⟨S2, lk⟩, e2, er⟩ := Option.bind_eq_some_iff.mp er
  obtain ⟨⟨ys, S3⟩, e3, er⟩ := Option.bind_eq_some_iff.mp er
  obtain ⟨S4, e4, er⟩ := Option.bind_eq_some_iff.mp er
  split at er
  case isFalse => cases er
  rename_i hz
  cases er
  refine hi Pr F ι α σ H R w xs S1 e1 S2 lk e2 _ fun J v u Lk F1 ι1 H1 R1 l1 m1 hr c1 wk fo sb => fun D hD => ?_
  obtain ⟨Ra, fa⟩ := R1.alloc (d := .lst []) (o := .lst []) hD fun G g => ⟨[], g, .nil⟩
  have Rb := Ra.guard (a := D) (o := .lst []) upd_same (.inl fa.nf) (fun n c h _ => absurd (List.mem_of_getElem? h) fa.ni) fa.no
  have prL := fa.np
  have prD : Pr D = none := by
    cases z : Pr D with
    | none => rfl
    | some o => rw [sb D o z] at prL; cases prL
  obtain ⟨W, hW⟩ : ∃ W : Nat → Nat → Hp → Prop, W = fun i m H => m = xs.length - i ∧ i ≤ xs.length ∧ ∃ S F ι acc vs rest, Rel p (upd (lkP Pr Lk) D (.lst vs)) ρ S F ι α σ H ∧ LeH F1 F ∧ LeA ι1 ι ∧ Reps p.K F ι vs acc ∧ cont ρ S w = some u ∧
      compGo (fun S' => cont ρ S' w = cont ρ S2 w) (fun d S' => (bindT t d (wipeS ρ t.ix)).bind fun ρ' => match c with
        | .nil => (evE G e ρ' S').map fun r => (some r.1, r.2)
        | .cons c _ => (evE G c ρ' S').bind fun q => (blOf q.1).bind fun b => if b then (evE G e ρ' q.2).map fun r => (some r.1, r.2) else some (none, q.2)) (xs.drop i) S = some (rest, S3) ∧ ys = acc ++ rest := ⟨_, rfl⟩
  refine ⟨W, ⟨xs.length - 0, by rw [hW]; exact ⟨rfl, Nat.zero_le _, S2, F1, ι1, [], [], ys, Rb, LeH.refl _, LeA.refl _, .nil, c1, e3, rfl⟩⟩, ?_⟩
  intro i m H2 hw
  rw [hW] at hw
  obtain ⟨hm, hi2, S, F2, ι2, acc, vs, rest, R2, l2, m2, rs, cc, eg, ey⟩ := hw
  have cv := cv_of R2 (hr.le l2 m2) cc
  have lkk : LkOk H2 Lk := by
    cases Lk with
    | none => trivial
    | some q =>
      have : q.1 ≠ D := fun z => by
        have := prL
        show False
        rw [← z] at this
        change upd Pr q.1 q.2 q.1 = none at this
        rw [upd_same] at this; cases this
      refine (R2.wd.prot q.1 q.2 ?_).1
      rw [upd_ne this]
      exact upd_same
  cases hx : xs[i]? with
  | none =>
    have hlen : xs.length ≤ i := List.getElem?_eq_none_iff.mp hx
    have : i = xs.length := by omega
    subst this
    refine .inl ⟨wk.stop R2.wd l2 m2 cv lkk, ?_⟩
    rw [List.drop_length] at eg
    cases eg
    rw [List.append_nil] at ey
    subst ey
    obtain ⟨a1, a2, a3, a4⟩ := R2.alone
    have R3 := R2.weak (Pr := lkP Pr Lk) fun b o z => by
      rw [upd_ne fun y => by rw [y, prL] at z; cases z]; exact z
    obtain ⟨H3, R4, k1, k2⟩ := fo R3 l2 m2 e4
    refine k2 _ (q D F2 ι2 H3 R4 (l1.trans l2) (m1.trans m2) ⟨⟨vs, k1 _ _ a1 (fun _ _ z => by cases z), rs⟩, a2, a3, prD, a4⟩)
  | some d =>
    have hil : i < xs.length := (List.getElem?_eq_some_iff.mp hx).1
    have hdrop : xs.drop i = d :: xs.drop (i + 1) := by
      rw [List.drop_eq_getElem_cons hil]
      congr 1
      have := List.getElem?_eq_some_iff.mp hx
      exact this.2
    rw [hdrop] at eg
    simp only [compGo] at eg
    obtain ⟨⟨od, S5⟩, f1, eg⟩ := Option.bind_eq_some_iff.mp eg
    split at eg
    case isFalse => cases eg
    rename_i kp
    obtain ⟨⟨rest', S6⟩, f2, f3⟩ := Option.map_eq_some_iff.mp eg
    cases f3
    obtain ⟨go, yl⟩ := wk.step hx R2.wd l2 m2 cv lkk
    refine .inr ⟨go, W (i + 1) (m - 1), fun H' h => ⟨m - 1, by omega, h⟩, fun x H' y => ?_⟩
    obtain ⟨F3, gr, rx⟩ := yl x H' y
    have R3 := R2.grow gr
    obtain ⟨ρ', f4, f5⟩ := Option.bind_eq_some_iff.mp f1
    rw [hix]
    intro s H0 C cl fp
    refine hg _ (gB s H0 C cl fp) (R3.wipe t.ix) rx f4 _ fun σ2 R4 w2 => ?_
    refine ⟨(w2 _ fun i hi => hi).trans (wipe_wipe _ _), ?_⟩
    -- back to the names around
    have back : ∀ {S' F' ι' H' vs'}, Rel p (upd (lkP Pr Lk) D (.lst vs')) ρ' S' F' ι' α σ2 H' → LeH F3 F' → LeA ι2 ι' → Rel p (upd (lkP Pr Lk) D (.lst vs')) ρ S' F' ι' α σ H' := fun R' l m =>
      R3.join R' l m fun i e he => bindT_own f4 no he
    have mk : ∀ {F' ι' H' vs' acc'}, Rel p (upd (lkP Pr Lk) D (.lst vs')) ρ S5 F' ι' α σ H' → LeH F3 F' → LeA ι2 ι' → Reps p.K F' ι' vs' acc' → ys = acc' ++ rest' → W (i + 1) (m - 1) H' := fun {F' ι' H' vs' acc'} R' l m r h => by
      rw [hW]
      exact ⟨by omega, hil, S5, F', ι', acc', vs', rest', R', (l2.trans gr.f).trans l, m2.trans m, r, by rw [kp]; exact c1, f2, h⟩
    have one : ∀ {S0 F5 ι5 H5 y S7}, Rel p (upd (lkP Pr Lk) D (.lst vs)) ρ' S0 F5 ι5 α σ2 H5 → LeH F3 F5 → LeA ι2 ι5 → evE G e ρ' S0 = some (y, S7) → od = some y → S5 = S7 → tE σ2 H5 fun yv H6 => ∃ acc, H6 D = some (.lst acc) ∧ acc.length < sizeLine ∧ W (i + 1) (m - 1) (upd H6 D (.lst (acc ++ [yv]))) := fun {S0 F5 ι5 H5 y S7} R5 l5 m5 f6 hod hS s H0 C cl fp => by
      subst hod hS
      refine he _ (gB s H0 C cl fp) ρ' S0 _ F5 ι5 α σ2 H5 R5 _ _ f6 _ fun yv F6 ι6 H6 R6 l6 m6 ry => ?_
      have rs6 := rs.le ((gr.f.trans l5).trans l6) (m5.trans m6)
      have ey : ys = acc ++ [y] ++ rest' := by rw [ey, List.append_assoc]; rfl
      refine ⟨vs, R6.alone.1, ?_, mk (back R6 (l5.trans l6) (m5.trans m6)).reguard (l5.trans l6) (m5.trans m6) (rs6.app (.cons ry .nil)) ey⟩
      have : ys.length ≤ sizeLine := hz
      rw [ey] at this
      simp only [List.length_append, List.length_singleton] at this
      rw [rs6.length]; omega
    cases c with
    | nil =>
      obtain ⟨⟨y', S7⟩, f6, f7⟩ := Option.map_eq_some_iff.mp f5
      cases f7
      refine ht R4 (b := true) rfl _ fun F5 ι5 H5 R5 l5 m5 => ?_
      rw [if_pos rfl]
      exact one R5 l5 m5 f6 rfl rfl
    | cons c' cr =>
      obtain ⟨⟨bq, S7⟩, f6, f7⟩ := Option.bind_eq_some_iff.mp f5
      obtain ⟨b, f8, f9⟩ := Option.bind_eq_some_iff.mp f7
      refine ht R4 (b := b) (S' := S7) (by simp only [f6, Option.bind_some, f8, Option.map_some]) _ fun F5 ι5 H5 R5 l5 m5 => ?_
      by_cases hb : b = true
      · rw [if_pos hb] at f9 ⊢
        obtain ⟨⟨y', S8⟩, f10, f11⟩ := Option.map_eq_some_iff.mp f9
        cases f11
        exact one R5 l5 m5 f10 rfl rfl
      · rw [if_neg hb] at f9 ⊢
        cases f9
        exact mk (back R5 l5 m5) l5 m5 (rs.le (gr.f.trans l5) m5) ey
theorem fn_comp {scope : Scope} {t : Tg} {it : It} {c : Ar} {e : Ex} {ifs : List Expr} {own : List (Str × Nat)} (g : Good p N sc fn k X) (hi : FI p X ρ S tg iter (evI G it ρ S)) (ok : BlkOk N sc scope own) (hix : own.map (·.2) = t.ix)
    (hg : ∀ X', Good p N (relS scope sc) (fnB scope) k X' → FG p X' t tg) (hc : FC p G (Good p N (relS scope sc) (fnB scope) k) ifs c) (he : ∀ X', Good p N (relS scope sc) (fnB scope) k X' → ∀ ρ S, FE p X' ρ S elt (evE G e ρ S))
    (hs : ∀ x, foldedSetIterable iter X.env x = pure x) : FN p X ρ S (.ListComp elt [⟨tg, iter, ifs, 0⟩] scope pos) (evE G (.comp t it c e) ρ S) := by
  obtain ⟨gT, tt, tE, pg, pt, pe, h⟩ := comp_core g hi ok hix hg hc he
  intro Pr F ι α σ H R d S' er Q q
  exact wE_unl (wE_of (pe_lc (own := own) g.calm (by rw [g.hN]; exact g.nd) piW (by rw [g.hN, g.sc]; exact ok) pg pt pe hs) (h Pr F ι α σ H R d S' er Q q))
end
end Z

set_option Elab.async false
set_option linter.all false
set_option maxRecDepth 100000
set_option maxHeartbeats 4000000
namespace Z
open PySem PySem.Spec PyProof.Rows L2
section
variable {p : Pg} {Pr : Hp} {ρ : Env'} {S : Store} {F : Hp} {ι : List Addr} {α : Nat → Addr} {σ : L2.St} {H : Hp} {a : Addr} {d : D}
/-- what is guarded as a dict is nothing else's -/
theorem Rel.aloneK {vs : List (Key × V)} (R : Rel p (upd Pr a (.dK vs)) ρ S F ι α σ H) : H a = some (.dK vs) ∧ F a = none ∧ a ∉ ι ∧ ∀ j e, ρ[j]? = some (.own e) → α j ≠ a := by
  obtain ⟨h1, h2, h3⟩ := R.wd.prot a _ upd_same
  refine ⟨h1, h2.resolve_right id, fun hm => ?_, fun j e hj z => ?_⟩
  · obtain ⟨n, hn⟩ := List.getElem?_of_mem hm
    have hl : n < S.length := by rw [← R.wd.len]; exact (List.getElem?_eq_some_iff.mp hn).1
    obtain ⟨d, hd⟩ := h3 n S[n] hn (List.getElem?_eq_getElem hl)
    obtain ⟨_, q⟩ := R.wd.cell n S[n] a (List.getElem?_eq_getElem hl) hn
    rw [hd] at q
    obtain ⟨ob, o, q⟩ := LRep.there q
    rw [h1] at q; cases q
  · have := (R.own j e hj).2.2.2.2
    rw [z, upd_same] at this; cases this
theorem Rel.reguardK {vs ws : List (Key × V)} (R : Rel p (upd Pr a (.dK vs)) ρ S F ι α σ H) : Rel p (upd Pr a (.dK ws)) ρ S F ι α σ (upd H a (.dK ws)) := by
  obtain ⟨h1, h2, h3, h4⟩ := R.aloneK
  exact {
    wd := {
      sub := fun b u e => by
        have hb : b ≠ a := fun z => by rw [z, h2] at e; cases e
        rcases R.wd.sub b u e with h | ⟨k, ob, h⟩
        · exact .inl (by rw [upd_ne hb]; exact h)
        · exact .inr ⟨k, ob, by rw [upd_ne hb]; exact h⟩
      con := R.wd.con
      len := R.wd.len
      tab := ⟨tabs_upd R.wd.tab.t h1 id, R.wd.tab.f, fun b ps e => by
        by_cases hb : b = a
        · subst hb; rw [upd_same] at e; cases e
        · rw [upd_ne hb] at e; exact R.wd.tab.p b ps (by rw [upd_ne hb]; exact e)⟩
      nd := R.wd.nd
      cell := fun m c' b k1 k2 => by
        obtain ⟨q1, q2⟩ := R.wd.cell m c' b k1 k2
        exact ⟨q1, q2.le (LeH.refl _) (LeA.refl _) (upd_ne fun z => h3 (by rw [← z]; exact List.mem_of_getElem? k2))⟩
      prot := fun b u h => by
        by_cases hb : b = a
        · subst hb
          rw [upd_same] at h; cases h
          exact ⟨upd_same, .inl h2, fun n c k _ => absurd (List.mem_of_getElem? k) h3⟩
        · rw [upd_ne hb] at h
          obtain ⟨q1, q2, q3⟩ := R.wd.prot b u (by rw [upd_ne hb]; exact h)
          exact ⟨by rw [upd_ne hb]; exact q1, q2, q3⟩ }
    fz := R.fz
    own := fun i d h => by
      obtain ⟨k1, k2, k3, k4, k5⟩ := R.own i d h
      exact ⟨k1, k2, k3, k4.le (LeH.refl _) (LeA.refl _) (upd_ne (h4 i d h)), by rw [upd_ne (h4 i d h)] at k5 ⊢; exact k5⟩
    lng := R.lng
    inj := R.inj }
end
section
variable {p : Pg} {N : List Str} {sc : Scope} {fn : Str → Bool} {k : Nat} {X : Cx} {G : Fns} {ρ : Env'} {S : Store} {tg iter kx vx : Expr} {pos : Pos}
theorem dcomp_core {scope : Scope} {t : Tg} {it : It} {c : Ar} {ek ev : Ex} {ifs : List Expr} {own : List (Str × Nat)} (g : Good p N sc fn k X) (hi : FI p X ρ S tg iter (evI G it ρ S)) (ok : BlkOk N sc scope own) (hix : own.map (·.2) = t.ix)
    (hg : ∀ X', Good p N (relS scope sc) (fnB scope) k X' → FG p X' t tg) (hc : FC p G (Good p N (relS scope sc) (fnB scope) k) ifs c) (hek : ∀ X', Good p N (relS scope sc) (fnB scope) k X' → ∀ ρ S, FE p X' ρ S kx (evE G ek ρ S)) (hev : ∀ X', Good p N (relS scope sc) (fnB scope) k X' → ∀ ρ S, FE p X' ρ S vx (evE G ev ρ S)) :
    ∃ gT tt tK tE, (∀ s H0 C cl fp, PG (blkX X scope s H0 C cl fp) tg gT) ∧ (∀ s H0 C cl fp, PTs (blkX X scope s H0 C cl fp) ifs tt) ∧ (∀ s H0 C cl fp, PE (blkX X scope s H0 C cl fp) kx tK) ∧ (∀ s H0 C cl fp, PE (blkX X scope s H0 C cl fp) vx tE) ∧
      ∀ Pr F ι α σ H, Rel p Pr ρ S F ι α σ H → ∀ d S', evE G (.dcomp t it c ek ev) ρ S = some (d, S') → ∀ Q : VK, (∀ a F' ι' H', Rel p Pr ρ S' F' ι' α σ H' → LeH F F' → LeA ι ι' → Fr p Pr ρ F' ι' α H' a d → Q (.ref a) H') →
        tDc (wI X tg iter) gT tt tK tE (own.map (·.2)) σ H fun x H1 => Unl X (Q x) H1 := by
  have hN : X.N.Nodup := by rw [g.hN]; exact g.nd
  have gB := fun s H C cl fp => good_blk (scope := scope) g s H C cl fp
  have okX : BlkOk X.N X.env.scope scope own := by rw [g.hN, g.sc]; exact ok
  -- the readings over all blocks
  let gT : TG := fun v σ H Q => ∀ s H0 C cl fp, wG (blkX X scope s H0 C cl fp) tg v σ H Q
  let tK : TE := fun σ H Q => ∀ s H0 C cl fp, wE (blkX X scope s H0 C cl fp) kx σ H Q
  let tE : TE := fun σ H Q => ∀ s H0 C cl fp, wE (blkX X scope s H0 C cl fp) vx σ H Q
  have pg : ∀ s H0 C cl fp, PG (blkX X scope s H0 C cl fp) tg gT := fun s H0 C cl fp => ⟨fun pins s' σ H v u Q I r h => pgW.run pins s' σ H v u Q I r (h s H0 C cl fp)⟩
  have pk : ∀ s H0 C cl fp, PE (blkX X scope s H0 C cl fp) kx tK := fun s H0 C cl fp => ⟨fun pins s' σ H Q I h => peW.run pins s' σ H Q I (h s H0 C cl fp)⟩
  have pe : ∀ s H0 C cl fp, PE (blkX X scope s H0 C cl fp) vx tE := fun s H0 C cl fp => ⟨fun pins s' σ H Q I h => peW.run pins s' σ H Q I (h s H0 C cl fp)⟩
  have ct : ∃ tt : TT, (∀ s H0 C cl fp, PTs (blkX X scope s H0 C cl fp) ifs tt) ∧ ∀ {Pr ρ' S F ι α σ H}, Rel p Pr ρ' S F ι α σ H → ∀ {b S'}, (match (motive := Ar → Option (Bool × Store)) c with
        | .nil => some (true, S)
        | .cons c _ => (evE G c ρ' S).bind fun q => (blOf q.1).map fun b => (b, q.2)) = some (b, S') →
      ∀ Q : Bool → Hp → Prop, (∀ F' ι' H', Rel p Pr ρ' S' F' ι' α σ H' → LeH F F' → LeA ι ι' → Q b H') → tt σ H Q := by
    cases hc with
    | nil =>
      refine ⟨tYes, fun s H0 C cl fp => pts_nil, fun {Pr ρ' S F ι α σ H} R b S' e Q q => ?_⟩
      cases e
      exact q F ι H R (LeH.refl _) (LeA.refl _)
    | @one e' c' h =>
      refine ⟨fun σ H Q => ∀ s H0 C cl fp, wT (blkX X scope s H0 C cl fp) e' σ H Q, fun s H0 C cl fp => pts_one ⟨fun pins s' σ H Q I h => ptW.run pins s' σ H Q I (h s H0 C cl fp)⟩, fun {Pr ρ' S F ι α σ H} R b S' e Q q s H0 C cl fp => ?_⟩
      obtain ⟨⟨u, S5⟩, h1, h2⟩ := Option.bind_eq_some_iff.mp e
      obtain ⟨b', h3, h4⟩ := Option.map_eq_some_iff.mp h2
      cases h4
      cases blOf_eq h3
      exact h _ (gB s H0 C cl fp) ρ' S Pr F ι α σ H R _ _ h1 Q q
  obtain ⟨tt, pt, ht⟩ := ct
  refine ⟨gT, tt, tK, tE, pg, pt, pk, pe, ?_⟩
  intro Pr F ι α σ H R d S' er Q q
  rw [evE] at er
  split at er
  case isFalse => cases er
  rename_i no
  obtain ⟨⟨w, xs, S1⟩, e1, er⟩ := Option.bind_eq_some_iff.mp er
  obtain ⟨⟨S2, lk⟩, e2, er⟩ := Option.bind_eq_some_iff.mp er
  obtain ⟨⟨ys, S3⟩, e3, er⟩ := Option.bind_eq_some_iff.mp er
  obtain ⟨S4, e4, er⟩ := Option.bind_eq_some_iff.mp er
  split at er
  case isFalse => cases er
  rename_i hz
  obtain ⟨fin, e5, er⟩ := Option.map_eq_some_iff.mp er
  cases er
  refine hi Pr F ι α σ H R w xs S1 e1 S2 lk e2 _ fun J v u Lk F1 ι1 H1 R1 l1 m1 hr c1 wk fo sb => fun D hD => ?_
  obtain ⟨Ra, fa⟩ := R1.alloc (d := .dK []) (o := .dK []) hD fun G g => ⟨[], g, rfl, .nil⟩
  have Rb := Ra.guard (a := D) (o := .dK []) upd_same (.inl fa.nf) (fun n c h _ => absurd (List.mem_of_getElem? h) fa.ni) fa.no
  have prL := fa.np
  have prD : Pr D = none := by
    cases z : Pr D with
    | none => rfl
    | some o => rw [sb D o z] at prL; cases prL
  obtain ⟨W, hW⟩ : ∃ W : Nat → Nat → Hp → Prop, W = fun i m H => m = xs.length - i ∧ i ≤ xs.length ∧ ∃ S F ι acc vs rest, Rel p (upd (lkP Pr Lk) D (.dK vs)) ρ S F ι α σ H ∧ LeH F1 F ∧ LeA ι1 ι ∧ RKV p.K F ι vs acc ∧ cont ρ S w = some u ∧
      compGo (fun S' => cont ρ S' w = cont ρ S2 w) (fun d S' => (bindT t d (wipeS ρ t.ix)).bind fun ρ' => match c with
        | .nil => (evE G ek ρ' S').bind fun r => (evE G ev ρ' r.2).map fun q => (some (.tup [r.1, q.1]), q.2)
        | .cons c _ => (evE G c ρ' S').bind fun q => (blOf q.1).bind fun b => if b then (evE G ek ρ' q.2).bind fun r => (evE G ev ρ' r.2).map fun q => (some (.tup [r.1, q.1]), q.2) else some (none, q.2)) (xs.drop i) S = some (rest, S3) ∧ mkd rest acc = some fin ∧ acc.length + rest.length ≤ sizeLine := ⟨_, rfl⟩
  refine ⟨W, ⟨xs.length - 0, by rw [hW]; exact ⟨rfl, Nat.zero_le _, S2, F1, ι1, [], [], ys, Rb, LeH.refl _, LeA.refl _, .nil, c1, e3, e5, by simpa using hz⟩⟩, ?_⟩
  intro i m H2 hw
  rw [hW] at hw
  obtain ⟨hm, hi2, S, F2, ι2, acc, vs, rest, R2, l2, m2, rs, cc, eg, em, ez⟩ := hw
  have cv := cv_of R2 (hr.le l2 m2) cc
  have lkk : LkOk H2 Lk := by
    cases Lk with
    | none => trivial
    | some q =>
      have : q.1 ≠ D := fun z => by
        have := prL
        show False
        rw [← z] at this
        change upd Pr q.1 q.2 q.1 = none at this
        rw [upd_same] at this; cases this
      refine (R2.wd.prot q.1 q.2 ?_).1
      rw [upd_ne this]
      exact upd_same
  cases hx : xs[i]? with
  | none =>
    have hlen : xs.length ≤ i := List.getElem?_eq_none_iff.mp hx
    have : i = xs.length := by omega
    subst this
    refine .inl ⟨wk.stop R2.wd l2 m2 cv lkk, ?_⟩
    rw [List.drop_length] at eg
    cases eg
    cases em
    obtain ⟨a1, a2, a3, a4⟩ := R2.aloneK
    have R3 := R2.weak (Pr := lkP Pr Lk) fun b o z => by
      rw [upd_ne fun y => by rw [y, prL] at z; cases z]; exact z
    obtain ⟨H3, R4, k1, k2⟩ := fo R3 l2 m2 e4
    refine k2 _ (q D F2 ι2 H3 R4 (l1.trans l2) (m1.trans m2) ⟨⟨vs, k1 _ _ a1 (fun _ _ z => by cases z), rs.1, rs.2⟩, a2, a3, prD, a4⟩)
  | some d =>
    have hil : i < xs.length := (List.getElem?_eq_some_iff.mp hx).1
    have hdrop : xs.drop i = d :: xs.drop (i + 1) := by
      rw [List.drop_eq_getElem_cons hil]
      congr 1
      have := List.getElem?_eq_some_iff.mp hx
      exact this.2
    rw [hdrop] at eg
    simp only [compGo] at eg
    obtain ⟨⟨od, S5⟩, f1, eg⟩ := Option.bind_eq_some_iff.mp eg
    split at eg
    case isFalse => cases eg
    rename_i kp
    obtain ⟨⟨rest', S6⟩, f2, f3⟩ := Option.map_eq_some_iff.mp eg
    cases f3
    obtain ⟨go, yl⟩ := wk.step hx R2.wd l2 m2 cv lkk
    refine .inr ⟨go, W (i + 1) (m - 1), fun H' h => ⟨m - 1, by omega, h⟩, fun x H' y => ?_⟩
    obtain ⟨F3, gr, rx⟩ := yl x H' y
    have R3 := R2.grow gr
    obtain ⟨ρ', f4, f5⟩ := Option.bind_eq_some_iff.mp f1
    rw [hix]
    intro s H0 C cl fp
    refine hg _ (gB s H0 C cl fp) (R3.wipe t.ix) rx f4 _ fun σ2 R4 w2 => ?_
    refine ⟨(w2 _ fun i hi => hi).trans (wipe_wipe _ _), ?_⟩
    -- back to the names around
    have back : ∀ {S' F' ι' H' vs'}, Rel p (upd (lkP Pr Lk) D (.dK vs')) ρ' S' F' ι' α σ2 H' → LeH F3 F' → LeA ι2 ι' → Rel p (upd (lkP Pr Lk) D (.dK vs')) ρ S' F' ι' α σ H' := fun R' l m =>
      R3.join R' l m fun i e he => bindT_own f4 no he
    have mk : ∀ {F' ι' H' vs' acc'}, Rel p (upd (lkP Pr Lk) D (.dK vs')) ρ S5 F' ι' α σ H' → LeH F3 F' → LeA ι2 ι' → RKV p.K F' ι' vs' acc' → mkd rest' acc' = some fin → acc'.length + rest'.length ≤ sizeLine → W (i + 1) (m - 1) H' := fun {F' ι' H' vs' acc'} R' l m r h h' => by
      rw [hW]
      exact ⟨by omega, hil, S5, F', ι', acc', vs', rest', R', (l2.trans gr.f).trans l, m2.trans m, r, by rw [kp]; exact c1, f2, h, h'⟩
    have one : ∀ {S0 F5 ι5 H5 y S7 y2 S8}, Rel p (upd (lkP Pr Lk) D (.dK vs)) ρ' S0 F5 ι5 α σ2 H5 → LeH F3 F5 → LeA ι2 ι5 → evE G ek ρ' S0 = some (y, S7) → evE G ev ρ' S7 = some (y2, S8) → od = some (.tup [y, y2]) → S5 = S8 → tK σ2 H5 fun yv H6 => tE σ2 H6 fun zv H7 => ∃ acc k, yv = kV k ∧ H7 D = some (.dK acc) ∧ acc.length < sizeLine ∧ W (i + 1) (m - 1) (upd H7 D (.dK (putK acc k zv))) := fun {S0 F5 ι5 H5 y S7 y2 S8} R5 l5 m5 f6 f7 hod hS s H0 C cl fp => by
      subst hod hS
      refine hek _ (gB s H0 C cl fp) ρ' S0 _ F5 ι5 α σ2 H5 R5 _ _ f6 _ fun yv F6 ι6 H6 R6 l6 m6 ry => ?_
      intro s' H0' C' cl' fp'
      refine hev _ (gB s' H0' C' cl' fp') ρ' S7 _ F6 ι6 α σ2 H6 R6 _ _ f7 _ fun zv F7 ι7 H7 R7 l7 m7 rz => ?_
      obtain ⟨kk, k1, k2⟩ := Option.bind_eq_some_iff.mp (show (keyK y).bind (fun k => mkd rest' (dput acc k y2)) = some fin from em)
      have rs7 := rs.le (((gr.f.trans l5).trans l6).trans l7) ((m5.trans m6).trans m7)
      have hlen := rs7.len
      have hd := (RKV.put kk rz rs7).len
      have hput := L2.length_putK vs kk zv
      simp only [List.length_cons] at ez
      refine ⟨vs, kk, keyK_rep ry k1, R7.aloneK.1, by omega, mk (back R7 ((l5.trans l6).trans l7) ((m5.trans m6).trans m7)).reguardK ((l5.trans l6).trans l7) ((m5.trans m6).trans m7) (RKV.put kk rz rs7) k2 (by omega)⟩
    cases c with
    | nil =>
      obtain ⟨⟨y', S7⟩, f6, f7⟩ := Option.bind_eq_some_iff.mp f5
      obtain ⟨⟨y2, S8⟩, f8, f9⟩ := Option.map_eq_some_iff.mp f7
      cases f9
      refine ht R4 (b := true) rfl _ fun F5 ι5 H5 R5 l5 m5 => ?_
      rw [if_pos rfl]
      exact one R5 l5 m5 f6 f8 rfl rfl
    | cons c' cr =>
      obtain ⟨⟨bq, S7⟩, f6, f7⟩ := Option.bind_eq_some_iff.mp f5
      obtain ⟨b, f8, f9⟩ := Option.bind_eq_some_iff.mp f7
      refine ht R4 (b := b) (S' := S7) (by simp only [f6, Option.bind_some, f8, Option.map_some]) _ fun F5 ι5 H5 R5 l5 m5 => ?_
      by_cases hb : b = true
      · rw [if_pos hb] at f9 ⊢
        obtain ⟨⟨y', S8⟩, f10, f11⟩ := Option.bind_eq_some_iff.mp f9
        obtain ⟨⟨y2, S9⟩, f12, f13⟩ := Option.map_eq_some_iff.mp f11
        cases f13
        exact one R5 l5 m5 f10 f12 rfl rfl
      · rw [if_neg hb] at f9 ⊢
        cases f9
        exact mk (back R5 l5 m5) l5 m5 (rs.le (gr.f.trans l5) m5) em ez
theorem fn_dcomp {scope : Scope} {t : Tg} {it : It} {c : Ar} {ek ev : Ex} {ifs : List Expr} {own : List (Str × Nat)} (g : Good p N sc fn k X) (hi : FI p X ρ S tg iter (evI G it ρ S)) (ok : BlkOk N sc scope own) (hix : own.map (·.2) = t.ix)
    (hg : ∀ X', Good p N (relS scope sc) (fnB scope) k X' → FG p X' t tg) (hc : FC p G (Good p N (relS scope sc) (fnB scope) k) ifs c) (hek : ∀ X', Good p N (relS scope sc) (fnB scope) k X' → ∀ ρ S, FE p X' ρ S kx (evE G ek ρ S)) (hev : ∀ X', Good p N (relS scope sc) (fnB scope) k X' → ∀ ρ S, FE p X' ρ S vx (evE G ev ρ S))
    (hs : ∀ x, foldedSetIterable iter X.env x = pure x) : FN p X ρ S (.DictComp kx vx [⟨tg, iter, ifs, 0⟩] scope pos) (evE G (.dcomp t it c ek ev) ρ S) := by
  obtain ⟨gT, tt, tK, tE, pg, pt, pk, pe, h⟩ := dcomp_core g hi ok hix hg hc hek hev
  intro Pr F ι α σ H R d S' er Q q
  exact wE_unl (wE_of (pe_dc (own := own) g.calm (by rw [g.hN]; exact g.nd) piW (by rw [g.hN, g.sc]; exact ok) pg pt pk pe hs) (h Pr F ι α σ H R d S' er Q q))
end
end Z

set_option Elab.async false
set_option linter.all false
set_option maxRecDepth 100000
set_option maxHeartbeats 4000000
namespace Z
open PySem PySem.Spec PyProof.Rows L2

/-! # statements -/
def Meets (p : Pg) (Pr F : Hp) (ι : List Addr) (D : Ends) : Out → Prop
  | .nxt ρ S => ∀ F' ι' α' σ' H', Rel p Pr ρ S F' ι' α' σ' H' → LeH F F' → LeA ι ι' → D.nx σ' H'
  | .ret d S => ∀ v F' ι' H', Wd p Pr S F' ι' H' → LeH F F' → LeA ι ι' → Rep p.K F' ι' v d → D.rt v H'
  | .brk ρ S => ∀ F' ι' α' σ' H', Rel p Pr ρ S F' ι' α' σ' H' → LeH F F' → LeA ι ι' → D.bk σ' H'
  | .cnt ρ S => ∀ F' ι' α' σ' H', Rel p Pr ρ S F' ι' α' σ' H' → LeH F F' → LeA ι ι' → D.ct σ' H'
def FS (p : Pg) (X : Cx) (ρ : Env') (S : Store) (st : Stmt) (r : Option Out) : Prop :=
  ∀ Pr F ι α σ H, Rel p Pr ρ S F ι α σ H → ∀ o, r = some o → ∀ D : Ends, Meets p Pr F ι D o → wS X st D σ H
def FSs (p : Pg) (X : Cx) (ρ : Env') (S : Store) (sts : List Stmt) (r : Option Out) : Prop :=
  ∀ Pr F ι α σ H, Rel p Pr ρ S F ι α σ H → ∀ o, r = some o → ∀ D : Ends, Meets p Pr F ι D o → wSs X sts D σ H
theorem Meets.le {p : Pg} {Pr F F' : Hp} {ι ι' : List Addr} {D : Ends} {o : Out} (l : LeH F F') (m : LeA ι ι') (h : Meets p Pr F ι D o) : Meets p Pr F' ι' D o := by
  cases o with
  | nxt ρ S => exact fun F2 ι2 α σ H R l2 m2 => h F2 ι2 α σ H R (l.trans l2) (m.trans m2)
  | ret d S => exact fun v F2 ι2 H W l2 m2 r => h v F2 ι2 H W (l.trans l2) (m.trans m2) r
  | brk ρ S => exact fun F2 ι2 α σ H R l2 m2 => h F2 ι2 α σ H R (l.trans l2) (m.trans m2)
  | cnt ρ S => exact fun F2 ι2 α σ H R l2 m2 => h F2 ι2 α σ H R (l.trans l2) (m.trans m2)
def Rel0 {p : Pg} {Pr : Hp} {S : Store} {F : Hp} {ι : List Addr} {H : Hp} (α : Nat → Addr) (σ : L2.St) (W : Wd p Pr S F ι H) : Rel p Pr [] S F ι α σ H := ⟨W, fun i d h => by simp at h, fun i d h => by simp at h, Nat.zero_le _, fun i j d e h => by simp at h⟩
section
variable {p : Pg} {N : List Str} {sc : Scope} {fn : Str → Bool} {k : Nat} {X : Cx} {G : Fns} {ρ : Env'} {S : Store} {e ea eb ec tg : Expr} {pos : Pos} {a b c : Ex} {st : Stmt} {sts : List Stmt}
/-- behind a loop: the lock off -/
theorem Meets.free {Pr F F1 : Hp} {ι ι1 : List Addr} {D : Ends} {o o' : Out} {Lk : Option (Addr × HO)} {lk : Option (Nat × Z.D)} (fo : FreeOk X p Pr Lk lk F1 ι1) (l : LeH F F1) (m : LeA ι ι1) (e : o.after lk = some o') (h : Meets p Pr F ι D o') :
    Meets p (lkP Pr Lk) F1 ι1 ⟨fun σ' => Unl X (D.nx σ'), fun v => Unl X (D.rt v), fun σ' => Unl X (D.nx σ'), fun σ' => Unl X (D.nx σ')⟩ o := by
  cases o with
  | nxt ρ S =>
    obtain ⟨S', e1, e2⟩ := Option.map_eq_some_iff.mp e
    cases e2
    intro F2 ι2 α σ H R l2 m2
    obtain ⟨H3, R3, _, u⟩ := fo R l2 m2 e1
    exact u _ (h F2 ι2 α σ H3 R3 (l.trans l2) (m.trans m2))
  | ret d S =>
    obtain ⟨S', e1, e2⟩ := Option.map_eq_some_iff.mp e
    cases e2
    intro v F2 ι2 H W l2 m2 r
    obtain ⟨H3, R3, _, u⟩ := fo (Rel0 (fun _ => 0) [] W) l2 m2 e1
    exact u _ (h v F2 ι2 H3 R3.wd (l.trans l2) (m.trans m2) r)
  | brk ρ S =>
    obtain ⟨S', e1, e2⟩ := Option.map_eq_some_iff.mp e
    cases e2
    intro F2 ι2 α σ H R l2 m2
    obtain ⟨H3, R3, _, u⟩ := fo R l2 m2 e1
    exact u _ (h F2 ι2 α σ H3 R3 (l.trans l2) (m.trans m2))
  | cnt ρ S =>
    obtain ⟨S', e1, e2⟩ := Option.map_eq_some_iff.mp e
    cases e2
    intro F2 ι2 α σ H R l2 m2
    obtain ⟨H3, R3, _, u⟩ := fo R l2 m2 e1
    exact u _ (h F2 ι2 α σ H3 R3 (l.trans l2) (m.trans m2))

theorem fss_nil : FSs p X ρ S [] (evSs G .nil ρ S) := by
  intro Pr F ι α σ H R o e D h
  rw [evSs] at e; cases e
  exact wSs_of pss_nil (h F ι α σ H R (LeH.refl _) (LeA.refl _))
theorem fss_cons {s : Sm} {r : Sms} (h1 : FS p X ρ S st (evS G s ρ S)) (h2 : ∀ ρ S, FSs p X ρ S sts (evSs G r ρ S)) : FSs p X ρ S (st :: sts) (evSs G (.cons s r) ρ S) := by
  intro Pr F ι α σ H R o e D h
  rw [evSs] at e
  obtain ⟨o1, e1, e⟩ := Option.bind_eq_some_iff.mp e
  refine wSs_of (pss_cons psW pssW) (h1 Pr F ι α σ H R o1 e1 _ ?_)
  cases o1 with
  | nxt ρ' S' => exact fun F' ι' α' σ' H' R' l m => h2 ρ' S' Pr F' ι' α' σ' H' R' o e _ (h.le l m)
  | ret d S' => cases e; exact h
  | brk ρ' S' => cases e; exact h
  | cnt ρ' S' => cases e; exact h
/-- a name's own container is not changed any more -/
theorem fss_frz {i : Nat} {r : Sms} (h : ∀ ρ S, FSs p X ρ S sts (evSs G r ρ S)) : FSs p X ρ S sts (evSs G (.frz i r) ρ S) := by
  intro Pr F ι α σ H R o e D hD
  rw [evSs] at e
  split at e
  · rename_i d hi
    obtain ⟨k1, k2, k3, k4, k5⟩ := R.own i d hi
    -- the rest without the name
    have R0 : Rel p Pr (ρ.set i .un) S F ι α σ H := {
      wd := R.wd
      fz := fun j e q => by
        rcases getElem?_set_slot q with ⟨_, _, z⟩ | ⟨_, q⟩
        · cases z
        · exact R.fz j e q
      own := fun j e q => by
        rcases getElem?_set_slot q with ⟨_, _, z⟩ | ⟨_, q⟩
        · cases z
        · exact R.own j e q
      lng := by rw [List.length_set]; exact R.lng
      inj := fun j l e e' q1 q2 z => by
        rcases getElem?_set_slot q1 with ⟨_, _, y⟩ | ⟨_, q1⟩
        · cases y
        · rcases getElem?_set_slot q2 with ⟨_, _, y⟩ | ⟨_, q2⟩
          · cases y
          · exact R.inj _ _ _ _ q1 q2 z }
    have f : Fr p Pr (ρ.set i .un) F ι α H (α i) d := ⟨k4, k2, k3, k5, fun j e q z => by
      rcases getElem?_set_slot q with ⟨_, _, y⟩ | ⟨ne, q⟩
      · cases y
      · exact ne (R.inj _ _ _ _ q hi z).symm⟩
    obtain ⟨F', R1, l1, r1⟩ := R0.freeze f
    have R2 := R1.setFz (i := i) r1
    have e1 : (ρ.set i .un).set i (.fz d) = ρ.set i (.fz d) := List.set_set _
    have e2 : σ.set i (some (.ref (α i))) = σ := by
      apply List.ext_getElem?
      intro n
      by_cases hn : i = n
      · subst hn
        have hl : i < σ.length := (List.getElem?_eq_some_iff.mp k1).1
        rw [List.getElem?_set_self hl, k1]
      · rw [List.getElem?_set_ne hn]
    rw [e1, e2] at R2
    exact h _ _ Pr F' ι α σ H R2 o e D (hD.le l1 (LeA.refl _))
  · cases e
theorem fs_pass : FS p X ρ S (.Pass pos) (evS G .pass ρ S) := by
  intro Pr F ι α σ H R o e D h
  rw [evS] at e; cases e
  exact wS_of ps_pass (h F ι α σ H R (LeH.refl _) (LeA.refl _))
theorem fs_doc {x : Str} {j : Nat} {pos' : Pos} : FS p X ρ S (.Expr (.Constant (.str x) j pos) pos') (evS G .pass ρ S) := by
  intro Pr F ι α σ H R o e D h
  rw [evS] at e; cases e
  exact wS_of ps_doc (h F ι α σ H R (LeH.refl _) (LeA.refl _))
theorem fs_brk : FS p X ρ S (.Break pos) (evS G .brk ρ S) := by
  intro Pr F ι α σ H R o e D h
  rw [evS] at e; cases e
  exact wS_of ps_break (h F ι α σ H R (LeH.refl _) (LeA.refl _))
theorem fs_cnt : FS p X ρ S (.Continue pos) (evS G .cnt ρ S) := by
  intro Pr F ι α σ H R o e D h
  rw [evS] at e; cases e
  exact wS_of ps_continue (h F ι α σ H R (LeH.refl _) (LeA.refl _))
theorem fs_retN : FS p X ρ S (.Return none pos) (evS G .retN ρ S) := by
  intro Pr F ι α σ H R o e D h
  rw [evS] at e; cases e
  exact wS_of ps_retN (h .non F ι H R.wd (LeH.refl _) (LeA.refl _) .non)
theorem fs_ret (ha : FE p X ρ S ea (evE G a ρ S)) : FS p X ρ S (.Return (some ea) pos) (evS G (.ret a) ρ S) := by
  intro Pr F ι α σ H R o e D h
  rw [evS] at e
  obtain ⟨⟨d, S1⟩, e1, e2⟩ := Option.map_eq_some_iff.mp e
  cases e2
  exact wS_of (ps_ret peW) (ha Pr F ι α σ H R _ _ e1 _ fun v F' ι' H' R' l m r => h v F' ι' H' R'.wd l m r)
theorem fs_expr (hs : swapsWith ea none pos.line X.env = pure false) (ha : FE p X ρ S ea (evE G a ρ S)) : FS p X ρ S (.Expr ea pos) (evS G (.expr a) ρ S) := by
  intro Pr F ι α σ H R o e D h
  rw [evS] at e
  obtain ⟨⟨d, S1⟩, e1, e2⟩ := Option.map_eq_some_iff.mp e
  cases e2
  exact wS_of (ps_expr peW hs) (ha Pr F ι α σ H R _ _ e1 _ fun v F' ι' H' R' l m r => h F' ι' α σ H' R' l m)
theorem fs_ife {sa sb : List Stmt} {ra rb : Sms} (hc : FT p X ρ S ec (evE G c ρ S)) (ha : ∀ ρ S, FSs p X ρ S sa (evSs G ra ρ S)) (hb : ∀ ρ S, FSs p X ρ S sb (evSs G rb ρ S)) : FS p X ρ S (.If ec sa sb pos) (evS G (.ife c ra rb) ρ S) := by
  intro Pr F ι α σ H R o e D h
  rw [evS] at e
  obtain ⟨⟨u, S1⟩, e1, e⟩ := Option.bind_eq_some_iff.mp e
  obtain ⟨q, e2, e3⟩ := Option.bind_eq_some_iff.mp e
  cases blOf_eq e2
  refine wS_of (ps_if ptW pssW pssW) (hc Pr F ι α σ H R _ _ e1 _ fun F' ι' H' R' l m => ?_)
  by_cases hq : q = true
  · rw [if_pos hq] at e3 ⊢
    exact ha ρ S1 Pr F' ι' α σ H' R' o e3 D (h.le l m)
  · rw [if_neg hq] at e3 ⊢
    exact hb ρ S1 Pr F' ι' α σ H' R' o e3 D (h.le l m)
theorem wG_of {v : V} {σ : L2.St} {H : Hp} {Q : L2.St → Hp → Prop} {g : TG} (h : PG X tg g) (q : g v σ H Q) : wG X tg v σ H Q := fun pins s u I r => h.run pins s σ H v u Q I r q
/-- a target that is a name or names -/
def nmTg : Expr → Bool
  | .Name _ _ => true
  | .Tuple _ _ _ => true
  | _ => false
theorem nmTg_each (h : nmTg tg = true) : (assignEach [tg] X.env).map (·.2) = [assign tg X.env] := by
  cases tg <;> first | rfl | cases h
theorem fs_asg {t : Tg} (hs : swapsWithSole [tg] ea pos.line X.env = pure false) (hw : swappedStores [tg] ea X.env = pure none) (hn : nmTg tg = true) (ht : FG p X t tg) (ha : FE p X ρ S ea (evE G a ρ S)) : FS p X ρ S (.Assign [tg] ea pos) (evS G (.asg t a) ρ S) := by
  intro Pr F ι α σ H R o e D h
  rw [evS] at e
  obtain ⟨⟨d, S1⟩, e1, e⟩ := Option.bind_eq_some_iff.mp e
  obtain ⟨ρ', e2, e3⟩ := Option.map_eq_some_iff.mp e
  cases e3
  refine wS_of (ps_asg peW pgW hs hw (nmTg_each hn)) (ha Pr F ι α σ H R _ _ e1 _ fun v F' ι' H' R' l m r => ?_)
  exact ht R' r e2 _ fun σ' R2 _ => h F' ι' α σ' H' R2 l m
theorem own_ok {i : Nat} {d : D} {S1 : Store} {o : Out} (e : (match d with
      | .lst xs => some (Out.nxt (ρ.set i (.own (.lst xs))) S1)
      | .dK xs => some (.nxt (ρ.set i (.own (.dK xs))) S1)
      | .dT xs => some (.nxt (ρ.set i (.own (.dT xs))) S1)
      | _ => none) = some o) : o = .nxt (ρ.set i (.own d)) S1 := by
  cases d <;> first | (cases e; rfl) | cases e
theorem fs_own {i : Nat} {x : Str} {ps : Pos} (g : Good p N sc fn k X) (hs : swapsWith ea (some (.Name x ps)) pos.line X.env = pure false) (hN : N[i]? = some x) (hl : Loc sc x) (hf : fn x = true ∨ sc.names.lookup x = some .local) (ha : FN p X ρ S ea (evE G a ρ S)) :
    FS p X ρ S (.Assign [.Name x ps] ea pos) (evS G (.own i a) ρ S) := by
  intro Pr F ι α σ H R o e D h
  rw [evS] at e
  split at e
  case isFalse => cases e
  obtain ⟨⟨d, S1⟩, e1, e⟩ := Option.bind_eq_some_iff.mp e
  cases own_ok e
  refine wS_of (ps_set (i := i) (by rw [g.hN]; exact g.nd) (by rw [g.hN]; exact hN) (by rw [g.sc]; exact hl) peW hs (by rw [g.fn, g.sc]; exact hf)) (ha Pr F ι α σ H R _ _ e1 _ fun b F' ι' H' R' l m f => ?_)
  exact h F' ι' _ _ H' (R'.setOwn f) l m
/-- name = [.. for ..] -/
theorem fs_ownC {i : Nat} {x : Str} {ps : Pos} {elt iter : Expr} {ifs : List Expr} {cp : Pos} {scope : Scope} {t : Tg} {it : It} {cc : Ar} {own : List (Str × Nat)} (g : Good p N sc fn k X) (hsw : swapsWith (.ListComp elt [⟨tg, iter, ifs, 0⟩] scope cp) (some (.Name x ps)) pos.line X.env = pure true)
    (hN : N[i]? = some x) (hl : sc.names.lookup x = some .local) (hi : FI p X ρ S tg iter (evI G it ρ S)) (ok : BlkOk N sc scope own) (hix : own.map (·.2) = t.ix)
    (hg : ∀ X', Good p N (relS scope sc) (fnB scope) k X' → FG p X' t tg) (hc : FC p G (Good p N (relS scope sc) (fnB scope) k) ifs cc) (he : ∀ X', Good p N (relS scope sc) (fnB scope) k X' → ∀ ρ S, FE p X' ρ S elt (evE G a ρ S))
    (hs : ∀ x, foldedSetIterable iter X.env x = pure x) : FS p X ρ S (.Assign [.Name x ps] (.ListComp elt [⟨tg, iter, ifs, 0⟩] scope cp) pos) (evS G (.own i (.comp t it cc a)) ρ S) := by
  obtain ⟨gT, tt, tE, pg, pt, pe, hh⟩ := comp_core g hi ok hix hg hc he
  intro Pr F ι α σ H R o e D h
  rw [evS] at e
  split at e
  case isFalse => cases e
  obtain ⟨⟨d, S1⟩, e1, e⟩ := Option.bind_eq_some_iff.mp e
  cases own_ok e
  refine wS_unl (wS_of (ps_setLc (i := i) (own := own) g.calm (by rw [g.hN]; exact g.nd) (by rw [g.hN]; exact hN) (by rw [g.sc]; exact hl) hsw piW (by rw [g.hN, g.sc]; exact ok) pg pt pe hs) ?_)
  exact hh Pr F ι α σ H R _ _ e1 (fun v H1 => D.nx (σ.set i (some v)) H1) fun b F' ι' H' R' l m f => h F' ι' _ _ H' (R'.setOwn f) l m
theorem fs_asgC {i : Nat} {x : Str} {ps : Pos} {elt iter : Expr} {ifs : List Expr} {cp : Pos} {scope : Scope} {t : Tg} {it : It} {cc : Ar} {own : List (Str × Nat)} (g : Good p N sc fn k X) (hsw : swapsWith (.ListComp elt [⟨tg, iter, ifs, 0⟩] scope cp) (some (.Name x ps)) pos.line X.env = pure true)
    (hN : N[i]? = some x) (hl : sc.names.lookup x = some .local) (hi : FI p X ρ S tg iter (evI G it ρ S)) (ok : BlkOk N sc scope own) (hix : own.map (·.2) = t.ix)
    (hg : ∀ X', Good p N (relS scope sc) (fnB scope) k X' → FG p X' t tg) (hc : FC p G (Good p N (relS scope sc) (fnB scope) k) ifs cc) (he : ∀ X', Good p N (relS scope sc) (fnB scope) k X' → ∀ ρ S, FE p X' ρ S elt (evE G a ρ S))
    (hs : ∀ x, foldedSetIterable iter X.env x = pure x) : FS p X ρ S (.Assign [.Name x ps] (.ListComp elt [⟨tg, iter, ifs, 0⟩] scope cp) pos) (evS G (.asg (.nm i) (.comp t it cc a)) ρ S) := by
  obtain ⟨gT, tt, tE, pg, pt, pe, hh⟩ := comp_core g hi ok hix hg hc he
  intro Pr F ι α σ H R o e D h
  rw [evS] at e
  obtain ⟨⟨d, S1⟩, e1, e⟩ := Option.bind_eq_some_iff.mp e
  obtain ⟨ρ', e2, e3⟩ := Option.map_eq_some_iff.mp e
  cases e3
  cases e2
  refine wS_unl (wS_of (ps_setLc (i := i) (own := own) g.calm (by rw [g.hN]; exact g.nd) (by rw [g.hN]; exact hN) (by rw [g.sc]; exact hl) hsw piW (by rw [g.hN, g.sc]; exact ok) pg pt pe hs) ?_)
  refine hh Pr F ι α σ H R _ _ e1 (fun v H1 => D.nx (σ.set i (some v)) H1) fun b F' ι' H' R' l m f => ?_
  obtain ⟨F2, R2, l2, r2⟩ := R'.freeze f
  exact h F2 ι' _ _ H' (R2.setFz r2) (l.trans l2) m
theorem fs_asgCm {i : Nat} {x : Str} {ps : Pos} {elt iter : Expr} {ifs : List Expr} {cp : Pos} {scope : Scope} {t : Tg} {it : It} {cc : Ar} {own : List (Str × Nat)} (g : Good p N sc fn k X) (hsw : swapsWith (.ListComp elt [⟨tg, iter, ifs, 0⟩] scope cp) (some (.Name x ps)) pos.line X.env = pure true)
    (hN : N[i]? = some x) (hl : sc.names.lookup x = some .local) (hi : FI p X ρ S tg iter (evI G it ρ S)) (ok : BlkOk N sc scope own) (hix : own.map (·.2) = t.ix)
    (hg : ∀ X', Good p N (relS scope sc) (fnB scope) k X' → FG p X' t tg) (hc : FC p G (Good p N (relS scope sc) (fnB scope) k) ifs cc) (he : ∀ X', Good p N (relS scope sc) (fnB scope) k X' → ∀ ρ S, FE p X' ρ S elt (evE G a ρ S))
    (hs : ∀ x, foldedSetIterable iter X.env x = pure x) : FS p X ρ S (.Assign [.Name x ps] (.ListComp elt [⟨tg, iter, ifs, 0⟩] scope cp) pos) (evS G (.asg (.nm i) (.mref (.comp t it cc a))) ρ S) := by
  obtain ⟨gT, tt, tE, pg, pt, pe, hh⟩ := comp_core g hi ok hix hg hc he
  intro Pr F ι α σ H R o e D h
  rw [evS, evE] at e
  obtain ⟨⟨d, S1⟩, e1, e⟩ := Option.bind_eq_some_iff.mp e
  obtain ⟨⟨d0, S0⟩, e0, e1⟩ := Option.bind_eq_some_iff.mp e1
  obtain ⟨ρ', e2, e3⟩ := Option.map_eq_some_iff.mp e
  cases e3
  cases e2
  refine wS_unl (wS_of (ps_setLc (i := i) (own := own) g.calm (by rw [g.hN]; exact g.nd) (by rw [g.hN]; exact hN) (by rw [g.sc]; exact hl) hsw piW (by rw [g.hN, g.sc]; exact ok) pg pt pe hs) ?_)
  refine hh Pr F ι α σ H R _ _ e0 (fun v H1 => D.nx (σ.set i (some v)) H1) fun b F' ι' H' R' l m f => ?_
  obtain ⟨R2, at2⟩ := R'.addCell f
  cases d0 <;> simp only [newRef] at e1 <;> first
    | (cases e1; exact h F' _ _ _ H' (R2.setFz (.ref at2)) l (m.trans (LeA.app _ _)))
    | (cases e1)
theorem fs_par2 {i j : Nat} {x y : Str} {px py pt : Pos} {kt k2 : Nat} {pt2 : Pos} {as : Ar} (g : Good p N sc fn k X) (hi : N[i]? = some x) (hj : N[j]? = some y) (hij : i ≠ j) (hx : sc.names.lookup x = some .local) (hy : sc.names.lookup y = some .local)
    (hw : swappedStores [.Tuple [.Name x px, .Name y py] kt pt] (.Tuple [ea, eb] k2 pt2) X.env = pure (some [x, y])) (hs : swapsWithSole [.Tuple [.Name x px, .Name y py] kt pt] (.Tuple [ea, eb] k2 pt2) pos.line X.env = pure false)
    (ha : FA p X ρ S [ea, eb] (evA G as ρ S)) : FS p X ρ S (.Assign [.Tuple [.Name x px, .Name y py] kt pt] (.Tuple [ea, eb] k2 pt2) pos) (evS G (.par [i, j] as) ρ S) := by
  intro Pr F ι α σ H R o e D h
  rw [evS] at e
  obtain ⟨⟨ds, S1⟩, e1, e⟩ := Option.bind_eq_some_iff.mp e
  split at e
  case isFalse => cases e
  rename_i hl
  cases e
  refine wS_of (ps_par g.calm (by rw [g.hN]; exact g.nd) (by rw [g.hN]; exact hi) (by rw [g.hN]; exact hj) hij (by rw [g.sc]; exact hx) (by rw [g.sc]; exact hy) paW hw hs) (ha Pr F ι α σ H R _ _ e1 _ fun vs F' ι' H' R' l m rs => ?_)
  have hl : ds.length = 2 := hl
  cases rs with
  | nil => cases hl
  | cons r1 rs =>
  cases rs with
  | nil => cases hl
  | cons r2 rs =>
  cases rs with
  | cons _ _ => simp at hl
  | nil => exact ⟨_, _, rfl, h F' ι' α _ H' ((R'.setFz (i := i) r1).setFz (i := j) r2) l m⟩
theorem fs_par3 {i j l : Nat} {x y z : Str} {px py pz pt : Pos} {kt k2 : Nat} {pt2 : Pos} {as : Ar} (g : Good p N sc fn k X) (hi : N[i]? = some x) (hj : N[j]? = some y) (hl : N[l]? = some z) (hij : i ≠ j) (hil : i ≠ l) (hjl : j ≠ l)
    (hx : sc.names.lookup x = some .local) (hy : sc.names.lookup y = some .local) (hz : sc.names.lookup z = some .local)
    (hw : swappedStores [.Tuple [.Name x px, .Name y py, .Name z pz] kt pt] (.Tuple [ea, eb, ec] k2 pt2) X.env = pure (some [x, y, z])) (hs : swapsWithSole [.Tuple [.Name x px, .Name y py, .Name z pz] kt pt] (.Tuple [ea, eb, ec] k2 pt2) pos.line X.env = pure false)
    (ha : FA p X ρ S [ea, eb, ec] (evA G as ρ S)) : FS p X ρ S (.Assign [.Tuple [.Name x px, .Name y py, .Name z pz] kt pt] (.Tuple [ea, eb, ec] k2 pt2) pos) (evS G (.par [i, j, l] as) ρ S) := by
  intro Pr F ι α σ H R o e D h
  rw [evS] at e
  obtain ⟨⟨ds, S1⟩, e1, e⟩ := Option.bind_eq_some_iff.mp e
  split at e
  case isFalse => cases e
  rename_i hlen
  cases e
  refine wS_of (ps_par3 g.calm (by rw [g.hN]; exact g.nd) (by rw [g.hN]; exact hi) (by rw [g.hN]; exact hj) (by rw [g.hN]; exact hl) hij hil hjl (by rw [g.sc]; exact hx) (by rw [g.sc]; exact hy) (by rw [g.sc]; exact hz) paW hw hs) (ha Pr F ι α σ H R _ _ e1 _ fun vs F' ι' H' R' l' m rs => ?_)
  have hlen : ds.length = 3 := hlen
  cases rs with
  | nil => cases hlen
  | cons r1 rs =>
  cases rs with
  | nil => cases hlen
  | cons r2 rs =>
  cases rs with
  | nil => cases hlen
  | cons r3 rs =>
  cases rs with
  | cons _ _ => simp at hlen
  | nil => exact ⟨_, _, _, rfl, h F' ι' α _ H' (((R'.setFz (i := i) r1).setFz (i := j) r2).setFz (i := l) r3) l' m⟩
theorem fs_aug {i : Nat} {x : Str} {op : Operator} {ps : Pos} (g : Good p N sc fn k X) (hN : N[i]? = some x) (hl : Loc sc x) (hf : fn x = true ∨ sc.names.lookup x = some .local) (ha : FE p X ρ S ea (evE G a ρ S)) : FS p X ρ S (.AugAssign (.Name x ps) op ea pos) (evS G (.aug i op a) ρ S) := by
  intro Pr F ι α σ H R o e D h
  rw [evS] at e
  obtain ⟨⟨d, S1⟩, e1, e⟩ := Option.bind_eq_some_iff.mp e
  split at e
  case h_2 => cases e
  rename_i u hu
  obtain ⟨v, hv, ru⟩ := R.fz i u hu
  cases u <;> try cases e
  cases d <;> try cases e
  cases ru
  rename_i ii jj
  have pv : ∀ v, Rep p.K F ι v (.int ii) → v = .int ii := fun v r => by cases r; rfl
  cases op <;> try cases e
  · refine wS_of (ps_aug (i := i) (by rw [g.hN]; exact g.nd) (by rw [g.hN]; exact hN) (by rw [g.sc]; exact hl) peW iop_add (by rw [g.fn, g.sc]; exact hf)) ⟨_, hv, ha Pr F ι α σ H R _ _ e1 _ fun v F' ι' H' R' l m r => ?_⟩
    cases r
    exact ⟨_, _, rfl, rfl, h F' ι' α _ H' (R'.setFz (.int _)) l m⟩
  · refine wS_of (ps_aug (i := i) (by rw [g.hN]; exact g.nd) (by rw [g.hN]; exact hN) (by rw [g.sc]; exact hl) peW iop_sub (by rw [g.fn, g.sc]; exact hf)) ⟨_, hv, ha Pr F ι α σ H R _ _ e1 _ fun v F' ι' H' R' l m r => ?_⟩
    cases r
    exact ⟨_, _, rfl, rfl, h F' ι' α _ H' (R'.setFz (.int _)) l m⟩
theorem fs_while {body : List Stmt} {rb : Sms} (g : Good p N sc fn k X) (hc : ∀ ρ S, FT p X ρ S ec (evE G c ρ S)) (hb : ∀ ρ S, FSs p X ρ S body (evSs G rb ρ S)) : FS p X ρ S (.While ec body [] pos) (evS G (.while_ c rb) ρ S) := by
  intro Pr F ι α σ H R o e D h
  rw [evS] at e
  refine wS_of (ps_while (by rw [g.xe]; exact PassesOwn.never) ptW pssW) ⟨fun m σ H => ∃ ρ S F' ι' α', Rel p Pr ρ S F' ι' α' σ H ∧ LeH F F' ∧ LeA ι ι' ∧ whGo (fun ρ' S' => (evE G c ρ' S').bind fun x => (blOf x.1).map fun k => (k, x.2)) (fun ρ' S' => evSs G rb ρ' S') m ρ S = some o,
    ⟨_, ρ, S, F, ι, α, R, LeH.refl _, LeA.refl _, e⟩, ?_⟩
  intro m σ1 H1 ⟨ρ1, S1, F1, ι1, α1, R1, l1, m1, e1⟩
  cases m with
  | zero => cases e1
  | succ m =>
  simp only [whGo] at e1
  obtain ⟨⟨b, S2⟩, e2, e1⟩ := Option.bind_eq_some_iff.mp e1
  obtain ⟨⟨u, S3⟩, e3, e4⟩ := Option.bind_eq_some_iff.mp e2
  obtain ⟨b', e5, e6⟩ := Option.map_eq_some_iff.mp e4
  cases e6
  cases blOf_eq e5
  refine hc ρ1 S1 Pr F1 ι1 α1 σ1 H1 R1 _ _ e3 _ fun F2 ι2 H2 R2 l2 m2 => ?_
  by_cases hb' : b = true
  · rw [if_pos hb'] at e1 ⊢
    obtain ⟨o2, e7, e8⟩ := Option.bind_eq_some_iff.mp e1
    refine ⟨fun σ' H' => ∃ ρ S F' ι' α', Rel p Pr ρ S F' ι' α' σ' H' ∧ LeH F F' ∧ LeA ι ι' ∧ whGo (fun ρ' S' => (evE G c ρ' S').bind fun x => (blOf x.1).map fun k => (k, x.2)) (fun ρ' S' => evSs G rb ρ' S') m ρ S = some o, fun σ' H' q => ⟨m, Nat.lt_succ_self _, q⟩, ?_⟩
    refine hb ρ1 _ Pr F2 ι2 α1 σ1 H2 R2 o2 e7 _ ?_
    cases o2 with
    | nxt ρ' S' => exact fun F3 ι3 α3 σ3 H3 R3 l3 m3 => ⟨ρ', S', F3, ι3, α3, R3, (l1.trans l2).trans l3, (m1.trans m2).trans m3, e8⟩
    | cnt ρ' S' => exact fun F3 ι3 α3 σ3 H3 R3 l3 m3 => ⟨ρ', S', F3, ι3, α3, R3, (l1.trans l2).trans l3, (m1.trans m2).trans m3, e8⟩
    | brk ρ' S' => cases e8; exact fun F3 ι3 α3 σ3 H3 R3 l3 m3 => h F3 ι3 α3 σ3 H3 R3 ((l1.trans l2).trans l3) ((m1.trans m2).trans m3)
    | ret d S' => cases e8; exact h.le (l1.trans l2) (m1.trans m2)
  · rw [if_neg hb'] at e1 ⊢
    cases e1
    exact h F2 ι2 α1 σ1 H2 R2 (l1.trans l2) (m1.trans m2)
theorem fs_for {iter : Expr} {body : List Stmt} {t : Tg} {it : It} {rb : Sms} (g : Good p N sc fn k X) (hi : FI p X ρ S tg iter (evI G it ρ S)) (ht : FG p X t tg) (hb : ∀ ρ S, FSs p X ρ S body (evSs G rb ρ S)) (hs : ∀ x, foldedSetIterable iter X.env x = pure x) :
    FS p X ρ S (.For tg iter body [] pos) (evS G (.for_ t it rb) ρ S) := by
  intro Pr F ι α σ H R o er Ds h
  rw [evS] at er
  obtain ⟨⟨w, xs, S1⟩, e1, er⟩ := Option.bind_eq_some_iff.mp er
  split at er
  case isFalse => cases er
  rename_i ns
  obtain ⟨⟨S2, lk⟩, e2, er⟩ := Option.bind_eq_some_iff.mp er
  obtain ⟨o1, e3, e4⟩ := Option.bind_eq_some_iff.mp er
  refine wS_unl (wS_of (ps_for (by rw [g.xe]; exact PassesOwn.never) g.calm piW pgW pssW hs) ?_)
  refine hi Pr F ι α σ H R w xs S1 e1 S2 lk e2 _ fun J v u Lk F1 ι1 H1 R1 l1 m1 hr c1 wk fo sb => ?_
  have hm := h.free fo l1 m1 e4
  obtain ⟨W, hW⟩ : ∃ W : Nat → Nat → L2.St → Hp → Prop, W = fun i m σ H => m = xs.length - i ∧ i ≤ xs.length ∧ ∃ ρ' S F ι α, Rel p (lkP Pr Lk) ρ' S F ι α σ H ∧ LeH F1 F ∧ LeA ι1 ι ∧ cont ρ' S w = some u ∧
      forGo (fun S' ρ' => cont ρ' S' w = cont ρ S2 w) (fun d ρ' S' => (bindT t d ρ').bind fun ρ2 => evSs G rb ρ2 S') (xs.drop i) ρ' S = some o1 := ⟨_, rfl⟩
  refine ⟨W, ⟨xs.length - 0, by rw [hW]; exact ⟨rfl, Nat.zero_le _, ρ, S2, F1, ι1, α, R1, LeH.refl _, LeA.refl _, c1, e3⟩⟩, ?_⟩
  intro i m σ2 H2 hw
  rw [hW] at hw
  obtain ⟨hm', hi2, ρ2, S, F2, ι2, α2, R2, l2, m2, cc, eg⟩ := hw
  have hr2 : HRep p F2 ι2 α2 v w := by
    cases w with
    | val d => exact Rep.le l2 m2 hr
    | slot j => cases ns
  have cv := cv_of R2 hr2 cc
  have lkk := R2.lkOk
  cases hx : xs[i]? with
  | none =>
    have hlen : xs.length ≤ i := List.getElem?_eq_none_iff.mp hx
    have : i = xs.length := by omega
    subst this
    refine .inl ⟨wk.stop R2.wd l2 m2 cv lkk, ?_⟩
    rw [List.drop_length] at eg
    cases eg
    exact hm F2 ι2 α2 σ2 H2 R2 l2 m2
  | some d =>
    have hil : i < xs.length := (List.getElem?_eq_some_iff.mp hx).1
    have hdrop : xs.drop i = d :: xs.drop (i + 1) := by
      rw [List.drop_eq_getElem_cons hil]
      congr 1
      exact (List.getElem?_eq_some_iff.mp hx).2
    rw [hdrop] at eg
    simp only [forGo] at eg
    obtain ⟨o2, f1, f2⟩ := Option.bind_eq_some_iff.mp eg
    obtain ⟨ρ3, f3, f4⟩ := Option.bind_eq_some_iff.mp f1
    obtain ⟨go, yl⟩ := wk.step hx R2.wd l2 m2 cv lkk
    refine .inr ⟨go, fun σ' H' => W (i + 1) (m - 1) σ' H', fun σ' H' q => ⟨m - 1, by omega, q⟩, fun x H' y => ?_⟩
    obtain ⟨F3, gr, rx⟩ := yl x H' y
    refine ht (R2.grow gr) rx f3 _ fun σ3 R3 _ => ?_
    refine hb ρ3 S _ F3 ι2 α2 σ3 H' R3 o2 f4 _ ?_
    have nxt : ∀ {ρ' S'}, cont ρ' S' w = cont ρ S2 w → forGo (fun S' ρ' => cont ρ' S' w = cont ρ S2 w) (fun d ρ' S' => (bindT t d ρ').bind fun ρ2 => evSs G rb ρ2 S') (xs.drop (i + 1)) ρ' S' = some o1 →
        ∀ F' ι' α' σ' H', Rel p (lkP Pr Lk) ρ' S' F' ι' α' σ' H' → LeH F3 F' → LeA ι2 ι' → W (i + 1) (m - 1) σ' H' := fun {ρ' S'} kp f F' ι' α' σ' H' R' l m' => by
      rw [hW]
      exact ⟨by omega, hil, ρ', S', F', ι', α', R', (l2.trans gr.f).trans l, m2.trans m', by rw [kp]; exact c1, f⟩
    cases o2 with
    | nxt ρ' S' =>
      simp only at f2
      split at f2
      · rename_i kp; exact nxt kp f2
      · cases f2
    | cnt ρ' S' =>
      simp only at f2
      split at f2
      · rename_i kp; exact nxt kp f2
      · cases f2
    | brk ρ' S' =>
      simp only at f2
      split at f2
      · cases f2
        exact fun F' ι' α' σ' H' R' l m' => hm F' ι' α' σ' H' R' ((l2.trans gr.f).trans l) (m2.trans m')
      · cases f2
    | ret d' S' =>
      simp only at f2
      split at f2
      · cases f2
        exact fun v' F' ι' H' W' l m' r => hm v' F' ι' H' W' ((l2.trans gr.f).trans l) (m2.trans m') r
      · cases f2
end
end Z

set_option Elab.async false
set_option linter.all false
set_option maxRecDepth 100000
set_option maxHeartbeats 4000000
namespace Z
open PySem PySem.Spec PyProof.Rows L2
section
variable {p : Pg} {Pr : Hp} {ρ : Env'} {S : Store} {F : Hp} {ι : List Addr} {α : Nat → Addr} {σ : L2.St} {H : Hp}
theorem putC_ok {x : V} {h : Hd} {u d : D} {ρ' : Env'} {S' : Store} (R : Rel p Pr ρ S F ι α σ H) (r : HRep p F ι α x h) (c : cont ρ S h = some u) (hp : putC ρ S h d = some (ρ', S')) :
    ∃ a, x = .ref a ∧ CRep p.K F ι H a u ∧ ∀ o, (∀ G : Hp, G a = some o → CRep p.K F ι G a d) → Rel p Pr ρ' S' F ι α σ (upd H a o) := by
  cases h with
  | slot i =>
    simp only [cont] at c
    split at c
    · rename_i w hi
      cases c
      cases hp
      exact ⟨α i, r, (R.own i u hi).2.2.2.1, fun o ho => R.putOwn hi (ho _ upd_same)⟩
    · cases c
  | val v =>
    cases v <;> try cases hp
    rename_i n
    simp only [putC] at hp
    obtain ⟨S2, h1, h2⟩ := Option.map_eq_some_iff.mp hp
    cases h2
    simp only [setC] at h1
    split at h1
    · rename_i w hc
      cases h1
      simp only [cont, hc] at c
      cases c
      cases (show Rep p.K F ι x (.ref n) from r) with
      | @ref n a hn =>
      obtain ⟨b, hb, hF, q⟩ := R.wd.at hc
      rw [hn] at hb; cases hb
      refine ⟨a, rfl, q, fun o ho => R.put hn ?_ (ho _ upd_same)⟩
      cases z : Pr a with
      | none => rfl
      | some u =>
        obtain ⟨d, y⟩ := (R.wd.prot a u z).2.2 n _ hn hc
        cases y
    · cases h1
theorem fput_ok {K : PySem.W.Frag} {v : V} {d : D} {f : Str} (r : Rep K F ι v d) : ∀ {fv : List (Str × V)} {fs : List (Str × D)}, fv.map (·.1) = fs.map (·.1) → Reps K F ι (fv.map (·.2)) (fs.map (·.2)) →
    (putF f v fv).map (·.1) = (setF.fput fs f d).map (·.1) ∧ Reps K F ι ((putF f v fv).map (·.2)) ((setF.fput fs f d).map (·.2))
  | [], [], _, _ => ⟨rfl, .cons r .nil⟩
  | [], _ :: _, e, _ => by cases e
  | _ :: _, [], e, _ => by cases e
  | (g, x) :: fv, (g', y) :: fs, e, rs => by
    simp only [List.map_cons, List.cons.injEq] at e
    obtain ⟨e1, e2⟩ := e
    subst e1
    cases rs with
    | cons r1 r2 =>
    obtain ⟨h1, h2⟩ := fput_ok r e2 r2
    simp only [putF, setF.fput]
    by_cases hg : g = f
    · rw [if_pos hg, if_pos hg]
      exact ⟨by simp [e2], .cons r r2⟩
    · rw [if_neg hg, if_neg hg]
      exact ⟨by simp [h1], .cons r1 h2⟩
theorem map_set' {β : Type} (l : List β) (n : Nat) (x : β) : True := trivial
end
section
variable {p : Pg} {N : List Str} {sc : Scope} {fn : Str → Bool} {k : Nat} {X : Cx} {G : Fns} {ρ : Env'} {S : Store} {e ea eb ec eo tg : Expr} {pos : Pos} {a b c o : Ex} {st : Stmt} {sts : List Stmt}
theorem setF_ok {Pr F : Hp} {ι : List Addr} {α : Nat → Addr} {σ : L2.St} {H : Hp} {n : Nat} {x : V} {f : Str} {v : V} {d : D} {S' : Store} (g : Good p N sc fn k X) (gf : FldOk p G) (R : Rel p Pr ρ S F ι α σ H) (r : Rep p.K F ι x (.ref n)) (rv : Rep p.K F ι v d) (e : setF G S n f d = some S') :
    ∃ a C dx fs, x = .ref a ∧ H a = some (.ins C dx fs) ∧ Cls X.K C ∧ NoAttr X.K C f ∧ fs.length < 1000 ∧ Rel p Pr ρ S' F ι α σ (upd H a (.ins C dx (putF f v fs))) := by
  unfold setF at e
  split at e
  · rename_i C fs hc
    split at e
    · rename_i hl
      cases e
      cases r with
      | @ref n a hn =>
      obtain ⟨b, hb, hF, Ca, dx, fv, h1, h2, h3, h4⟩ := R.wd.at hc
      rw [hn] at hb; cases hb
      obtain ⟨c1, c2⟩ := gf.fld C f Ca hl.2 h1
      rw [← g.K] at c1 c2
      have hlen : fv.length = fs.length := by have := congrArg List.length h3; simpa using this
      obtain ⟨k1, k2⟩ := fput_ok (f := f) rv h3 h4
      refine ⟨a, Ca, dx, fv, rfl, h2, c1, c2, by rw [hlen]; exact hl.1, R.put hn ?_ ⟨Ca, dx, _, h1, upd_same, k1, k2⟩⟩
      cases z : Pr a with
      | none => rfl
      | some u =>
        obtain ⟨d, y⟩ := (R.wd.prot a u z).2.2 n _ hn hc
        cases y
    · cases e
  · cases e
theorem fs_setf {f : Str} {pos' : Pos} (g : Good p N sc fn k X) (gf : FldOk p G) (hs : swapsWith ea (some (.Attribute eo f pos')) pos.line X.env = pure false) (ho : ∀ S, FE p X ρ S eo (evE G o ρ S)) (ha : FE p X ρ S ea (evE G a ρ S)) :
    FS p X ρ S (.Assign [.Attribute eo f pos'] ea pos) (evS G (.setf o f a) ρ S) := by
  intro Pr F ι α σ H R o' e D h
  rw [evS] at e
  obtain ⟨⟨d, S1⟩, e1, e⟩ := Option.bind_eq_some_iff.mp e
  obtain ⟨⟨u, S2⟩, e2, e⟩ := Option.bind_eq_some_iff.mp e
  cases u <;> try cases e
  obtain ⟨S3, e3, e4⟩ := Option.map_eq_some_iff.mp e
  cases e4
  refine wS_of (ps_fld peW peW hs) (ha Pr F ι α σ H R _ _ e1 _ fun v F1 ι1 H1 R1 l1 m1 r1 => ho S1 Pr F1 ι1 α σ H1 R1 _ _ e2 _ fun x F2 ι2 H2 R2 l2 m2 r2 => ?_)
  obtain ⟨c, C, dx, fs, rfl, h2, h3, h4, h5, R3⟩ := setF_ok g gf R2 r2 (r1.le l2 m2) e3
  exact ⟨c, C, dx, fs, rfl, h2, h3, h4, h5, h F2 ι2 α σ _ R3 (l1.trans l2) (m1.trans m2)⟩
def wSet (X : Cx) : TSet := fun o i v H Q => ∀ pins s σ ov iv u, Inv X pins σ H s → RelV o ov → RelV i iv → RelV v u → wpAny (model X.prog X.w) X.A (setItem ov iv u) (fun _ s' => ∃ H', Inv X pins σ H' s' ∧ Q H') X.xe s
theorem wSet_ok : PSet X (wSet X) := fun pins s σ _ _ _ _ ov iv u _ I ro ri rv h => h pins s σ ov iv u I ro ri rv
theorem wSet_of {t : TSet} (h : PSet X t) {o i v : V} {H : Hp} {Q : Hp → Prop} (q : t o i v H Q) : wSet X o i v H Q := fun pins s σ ov iv u I ro ri rv => h pins s σ H o i v ov iv u Q I ro ri rv q
theorem set_ok {Pr F : Hp} {ι : List Addr} {α : Nat → Addr} {σ : L2.St} {H : Hp} {x y v : V} {h : Hd} {u kd d d' : D} {ρ' : Env'} {S' : Store} (g : Good p N sc fn k X) (R : Rel p Pr ρ S F ι α σ H) (r : HRep p F ι α x h) (ry : Rep p.K F ι y kd) (rv : Rep p.K F ι v d) (c : cont ρ S h = some u)
    (e1 : setItem' u kd d = some d') (e2 : putC ρ S h d' = some (ρ', S')) {Q : Hp → Prop} (q : ∀ H', Rel p Pr ρ' S' F ι α σ H' → Q H') : wSet X x y v H Q := by
  obtain ⟨a, rfl, cr, wr⟩ := putC_ok R r c e2
  have hu : X.A.units + 1 < cLine := by have := g.units; omega
  unfold setItem' at e1
  split at e1
  · rename_i xs i
    obtain ⟨j, h1, h2⟩ := Option.map_eq_some_iff.mp e1
    cases h2
    obtain ⟨vs, hH, rs⟩ := cr
    cases ry
    refine wSet_of set_list ⟨a, vs, _, j, rfl, rfl, hH, by rw [rs.length]; exact h1, q _ (wr _ fun G hG => ⟨_, hG, rs.set rv j⟩)⟩
  · rename_i es
    simp only [dset] at e1
    split at e1
    · rename_i key hk
      split at e1
      · rename_i hl
        cases e1
        obtain ⟨kvs, hH, k1, k2⟩ := cr
        have hy := keyK_rep ry hk
        subst hy
        have hlen : kvs.length = es.length := by have := congrArg List.length k1; simpa using this
        refine wSet_of (set_dict hu) ⟨a, _, rfl, .k hH (by rw [hlen]; exact hl), q _ (wr _ fun G hG => ?_)⟩
        obtain ⟨z1, z2⟩ := RKV.put key rv (⟨k1, k2⟩ : RKV p.K F ι kvs es)
        exact ⟨_, hG, z1, z2⟩
      · cases e1
    · cases e1
  · rename_i es
    simp only [dset] at e1
    split at e1
    · rename_i key hk
      split at e1
      · rename_i hl
        cases e1
        obtain ⟨kvs, hH, k1, k2⟩ := cr
        have hy : ∀ n, kd ≠ .ref n := fun n z => by subst z; cases hk
        obtain ⟨b, rfl, hb⟩ := keyT_cv (.of_rep R.wd.sub ry hy) hk
        have hlen : kvs.length = es.length := by have := congrArg List.length k1; simpa using this
        refine wSet_of (set_dict hu) ⟨a, _, rfl, .t hH hb (by rw [hlen]; exact hl), q _ (wr _ fun G hG => ?_)⟩
        obtain ⟨z1, z2⟩ := RKV.put key rv (⟨k1, k2⟩ : RKV p.K F ι kvs es)
        exact ⟨_, hG, z1, z2⟩
      · cases e1
    · cases e1
  · cases e1
theorem fs_seti {pos' : Pos} (g : Good p N sc fn k X) (hs : swapsWithSole [.Subscript eo eb pos'] ea pos.line X.env = pure false) (hw : swappedStores [.Subscript eo eb pos'] ea X.env = pure none)
    (hst : ∀ v, assign (.Subscript eo eb pos') X.env v = (do
      let ov ← holding [v] (eval eo X.env)
      let iv ← holding [v, ov] (eval eb X.env)
      standAt pos'
      holding [v, ov, iv] (setItem ov iv v)
      release [v, ov, iv] [])) (ho : ∀ S, FH p X ρ S eo (hOf o ρ S (evE G o ρ S))) (hb : ∀ S, FE p X ρ S eb (evE G b ρ S)) (ha : FE p X ρ S ea (evE G a ρ S)) :
    FS p X ρ S (.Assign [.Subscript eo eb pos'] ea pos) (evS G (.seti o b a) ρ S) := by
  intro Pr F ι α σ H R o' e D h
  rw [evS] at e
  obtain ⟨⟨d, S1⟩, e1, e⟩ := Option.bind_eq_some_iff.mp e
  obtain ⟨⟨w, S2⟩, e2, e⟩ := Option.bind_eq_some_iff.mp e
  obtain ⟨⟨kd, S3⟩, e3, e⟩ := Option.bind_eq_some_iff.mp e
  obtain ⟨u, e4, e⟩ := Option.bind_eq_some_iff.mp e
  obtain ⟨d', e5, e⟩ := Option.bind_eq_some_iff.mp e
  obtain ⟨⟨ρ', S4⟩, e6, e7⟩ := Option.map_eq_some_iff.mp e
  cases e7
  refine wS_of (ps_asg peW (pg_sub peW peW wSet_ok hst) hs hw rfl) (ha Pr F ι α σ H R _ _ e1 _ fun v F1 ι1 H1 R1 l1 m1 r1 => ho S1 Pr F1 ι1 α σ H1 R1 _ _ e2 _ fun x F2 ι2 H2 R2 l2 m2 r2 => hb S2 Pr F2 ι2 α σ H2 R2 _ _ e3 _ fun y F3 ι3 H3 R3 l3 m3 r3 => ?_)
  exact set_ok g R3 (r2.le l3 m3) r3 ((r1.le l2 m2).le l3 m3) e4 e5 e6 fun H' R' => h F3 ι3 α σ H' R' ((l1.trans l2).trans l3) ((m1.trans m2).trans m3)
theorem star_all : ∀ {es : List Expr} {env : Env} {cp : Pos}, (es.all fun e => !isStar e) = true → (backTo cp (starEach es env)).any (·.1) = false ∧ (backTo cp (starEach es env)).all (fun x => !x.1) = true
  | [], _, _, _ => ⟨rfl, rfl⟩
  | e :: es, env, cp, h => by
    rw [List.all_cons, Bool.and_eq_true, Bool.not_eq_true'] at h
    obtain ⟨h1, h2⟩ := star_all (env := env) (cp := cp) h.2
    rw [star_cons h.1]
    constructor
    · show (false || (backTo cp (starEach es env)).any (·.1)) = false
      rw [h1]; rfl
    · show (true && (backTo cp (starEach es env)).all (fun x => !x.1)) = true
      rw [h2]; rfl
theorem few_of {es : List Expr} {env : Env} {cp : Pos} (h : (es.all fun e => !isStar e) = true) (hl : es.length < 30) :
    ((backTo cp (starEach es env)).all (fun x => !x.1) && (backToKw cp (keywordEach [] env)).all (fun x => x.1.isSome) && decide (es.length + ([] : List Keyword).length + (if ([] : List Keyword).isEmpty then 0 else 1) < 30)) = true := by
  rw [(star_all h).2]
  show (true && true && decide (es.length + 0 + 0 < 30)) = true
  simpa using hl
theorem isLst_of {F : Hp} {ι : List Addr} {H : Hp} {x : V} {u : D} (h : CV p F ι H x u) (d : isLst (some u) = true) : ∃ a xs, x = .ref a ∧ SqL p.K H a xs := by
  cases u <;> try cases d
  obtain ⟨a, vs, rfl, q, _⟩ := h; exact ⟨a, vs, rfl, q⟩
theorem ty_lst (g : Good p N sc fn k X) {F : Hp} {ι : List Addr} {H : Hp} {x : V} {u : D} (h : CV p F ι H x u) (d : isLst (some u) = true) : tyV X.K "list" x H := by
  obtain ⟨a, vs, rfl, q⟩ := isLst_of h d
  exact .inl ⟨rfl, vs, by rw [g.K]; exact q⟩
theorem fs_app {apos cp : Pos} (g : Good p N sc fn k X) (hs : swapsWith (.Call (.Attribute eo "append" apos) [ea] [] cp) none pos.line X.env = pure false) (hb : attributeBase eo "append" X.env (eval eo X.env) = eval eo X.env) (hl : (apos.endLine == cp.line) = true) (h0 : isStar ea = false)
    (ho : FH p X ρ S eo (hOf o ρ S (evE G o ρ S))) (ha : ∀ S, FE p X ρ S ea (evE G a ρ S)) : FS p X ρ S (.Expr (.Call (.Attribute eo "append" apos) [ea] [] cp) pos) (evS G (.app o a) ρ S) := by
  intro Pr F ι α σ H R o' e D h
  rw [evS] at e
  obtain ⟨⟨w, S1⟩, e1, e⟩ := Option.bind_eq_some_iff.mp e
  split at e
  case isFalse => cases e
  rename_i hd
  obtain ⟨⟨d, S2⟩, e2, e⟩ := Option.bind_eq_some_iff.mp e
  obtain ⟨u, e3, e⟩ := Option.bind_eq_some_iff.mp e
  cases u <;> try cases e
  rename_i xs
  simp only at e
  split at e
  case isFalse => cases e
  rename_i hlen
  obtain ⟨⟨ρ', S4⟩, e6, e7⟩ := Option.map_eq_some_iff.mp e
  cases e7
  have fa : ∀ S, FA p X ρ S [ea] (evA G (.cons a .nil) ρ S) := fun S => fa_cons h0 (ha S) fun S => fa_nil
  refine wS_of (ps_expr (pe_bm PySem.F.plainAttrs_list PySem.F.slot_list_append PySem.F.type_list_append mt_append peW paW hb (few_of (by simp [h0]) (by simp)) hl (star_cons h0) rfl) hs) (ho Pr F ι α σ H R _ _ e1 _ fun x F1 ι1 H1 R1 l1 m1 r1 => ?_)
  cases hc : cont ρ S1 w with
  | none => rw [hc] at hd; cases hd
  | some u0 =>
  rw [hc] at hd
  refine ⟨ty_lst g (cv_of R1 r1 hc) hd, fa S1 Pr F1 ι1 α σ H1 R1 [d] S2 (by simp [evA, e2]) _ fun vs F2 ι2 H2 R2 l2 m2 rs => ?_⟩
  cases rs with
  | cons rv rs =>
  cases rs
  obtain ⟨ad, rfl, cr, wr⟩ := putC_ok R2 (r1.le l2 m2) e3 e6
  obtain ⟨vs, hH, rs⟩ := cr
  exact ⟨ad, vs, _, rfl, rfl, hH, by rw [rs.length]; exact hlen, h F2 ι2 α σ _ (wr _ fun G hG => ⟨_, hG, rs.app (.cons rv .nil)⟩) (l1.trans l2) (m1.trans m2)⟩
/-- what a pop gives back, the container changed -/
def FP (p : Pg) (X : Cx) (ρ : Env') (S : Store) (e : Expr) (r : Option (D × Env' × Store)) : Prop :=
  ∀ Pr F ι α σ H, Rel p Pr ρ S F ι α σ H → ∀ d ρ' S', r = some (d, ρ', S') → ∀ Q : VK, (∀ v F' ι' H', Rel p Pr ρ' S' F' ι' α σ H' → LeH F F' → LeA ι ι' → Rep p.K F' ι' v d → Q v H') → wE X e σ H Q
noncomputable def evP (G : Fns) (o : Ex) (as : Ar) (ρ : Env') (S : Store) : Option (D × Env' × Store) := (hOf o ρ S (evE G o ρ S)).bind fun x => (evA G as ρ x.2).bind fun y => if isLst (cont ρ x.2 x.1) = isLst (cont ρ y.2 x.1) ∧ isDct (cont ρ x.2 x.1) = isDct (cont ρ y.2 x.1) then (cont ρ y.2 x.1).bind fun u => (popD u y.1).bind fun r =>
      (putC ρ y.2 x.1 r.2).map fun q => (r.1, q.1, q.2) else none
theorem fs_pop {cp : Expr} {as : Ar} (hs : swapsWith cp none pos.line X.env = pure false) (h : FP p X ρ S cp (evP G o as ρ S)) : FS p X ρ S (.Expr cp pos) (evS G (.pop none o as) ρ S) := by
  intro Pr F ι α σ H R o' e D hD
  rw [evS] at e
  obtain ⟨⟨w, S1⟩, e1, e⟩ := Option.bind_eq_some_iff.mp e
  obtain ⟨⟨ds, S2⟩, e2, e⟩ := Option.bind_eq_some_iff.mp e
  split at e
  case isFalse => cases e
  rename_i hd
  obtain ⟨u, e3, e⟩ := Option.bind_eq_some_iff.mp e
  obtain ⟨r, e4, e⟩ := Option.bind_eq_some_iff.mp e
  obtain ⟨⟨ρ', S3⟩, e5, e⟩ := Option.bind_eq_some_iff.mp e
  cases e
  have e : evP G o as ρ S = some (r.1, ρ', S3) := by
    unfold evP
    simp only [e1, e2, Option.bind_some]
    rw [if_pos hd]
    simp only [e3, e4, Option.bind_some, e5, Option.map_some]
  exact wS_of (ps_expr peW hs) (h Pr F ι α σ H R _ _ _ e _ fun v F' ι' H' R' l m rv => hD F' ι' α σ H' R' l m)
theorem fs_popT {t : Tg} {cp : Expr} {as : Ar} (hs : swapsWithSole [tg] cp pos.line X.env = pure false) (hw : swappedStores [tg] cp X.env = pure none) (hn : nmTg tg = true) (ht : FG p X t tg) (h : FP p X ρ S cp (evP G o as ρ S)) : FS p X ρ S (.Assign [tg] cp pos) (evS G (.pop (some t) o as) ρ S) := by
  intro Pr F ι α σ H R o' e D hD
  rw [evS] at e
  obtain ⟨⟨w, S1⟩, e1, e⟩ := Option.bind_eq_some_iff.mp e
  obtain ⟨⟨ds, S2⟩, e2, e⟩ := Option.bind_eq_some_iff.mp e
  split at e
  case isFalse => cases e
  rename_i hd
  obtain ⟨u, e3, e⟩ := Option.bind_eq_some_iff.mp e
  obtain ⟨r, e4, e⟩ := Option.bind_eq_some_iff.mp e
  obtain ⟨⟨ρ', S3⟩, e5, e⟩ := Option.bind_eq_some_iff.mp e
  obtain ⟨ρ2, e6, e7⟩ := Option.map_eq_some_iff.mp e
  cases e7
  have e : evP G o as ρ S = some (r.1, ρ', S3) := by
    unfold evP
    simp only [e1, e2, Option.bind_some]
    rw [if_pos hd]
    simp only [e3, e4, Option.bind_some, e5, Option.map_some]
  exact wS_of (ps_asg peW pgW hs hw (nmTg_each hn)) (h Pr F ι α σ H R _ _ _ e _ fun v F' ι' H' R' l m rv => ht R' rv e6 _ fun σ' R2 _ => hD F' ι' α σ' H' R2 l m)
theorem isD_ofc {Pr F : Hp} {ι : List Addr} {α : Nat → Addr} {σ : L2.St} {H : Hp} {x : V} {w : Hd} (R : Rel p Pr ρ S F ι α σ H) (r : HRep p F ι α x w) (d : isDct (cont ρ S w) = true) : ∃ a, x = .ref a ∧ IsD H a := by
  cases hc : cont ρ S w with
  | none => rw [hc] at d; cases d
  | some u => rw [hc] at d; exact isD_of (cv_of R r hc) d
theorem tyL_ofc {Pr F : Hp} {ι : List Addr} {α : Nat → Addr} {σ : L2.St} {H : Hp} {x : V} {w : Hd} (g : Good p N sc fn k X) (R : Rel p Pr ρ S F ι α σ H) (r : HRep p F ι α x w) (d : isLst (cont ρ S w) = true) : tyV X.K "list" x H := by
  cases hc : cont ρ S w with
  | none => rw [hc] at d; cases d
  | some u => rw [hc] at d; exact ty_lst g (cv_of R r hc) d
theorem fp_pop0 {apos cp : Pos} (g : Good p N sc fn k X) (hb : attributeBase eo "pop" X.env (eval eo X.env) = eval eo X.env) (hl : (apos.endLine == cp.line) = true) (ho : FH p X ρ S eo (hOf o ρ S (evE G o ρ S))) :
    FP p X ρ S (.Call (.Attribute eo "pop" apos) [] [] cp) (evP G o .nil ρ S) := by
  intro Pr F ι α σ H R d ρ' S' e Q q
  unfold evP at e
  obtain ⟨⟨w, S1⟩, e1, e⟩ := Option.bind_eq_some_iff.mp e
  obtain ⟨⟨ds, S2⟩, e2, e⟩ := Option.bind_eq_some_iff.mp e
  split at e
  case isFalse => cases e
  obtain ⟨u, e3, e⟩ := Option.bind_eq_some_iff.mp e
  obtain ⟨r, e4, e⟩ := Option.bind_eq_some_iff.mp e
  obtain ⟨⟨ρ2, S3⟩, e5, e6⟩ := Option.map_eq_some_iff.mp e
  cases e6
  rw [evA] at e2
  cases e2
  cases u <;> try cases e4
  rename_i xs
  obtain ⟨y, e7, e8⟩ := Option.map_eq_some_iff.mp e4
  cases e8
  refine wE_of (pe_bm0 PySem.F.plainAttrs_list PySem.F.slot_list_pop PySem.F.type_list_pop mt_pop peW hb hl) (ho Pr F ι α σ H R _ _ e1 _ fun x F1 ι1 H1 R1 l1 m1 r1 => ?_)
  refine ⟨tyL_ofc g R1 r1 (by rw [e3]; rfl), ?_⟩
  obtain ⟨ad, rfl, cr, wr⟩ := putC_ok R1 r1 e3 e5
  obtain ⟨vs, hH, rs⟩ := cr
  obtain ⟨v, h1, h2⟩ := rs.at e7
  rw [← rs.length] at h1
  refine ⟨ad, vs, v, rfl, rfl, hH, h1, q _ F1 ι1 _ (wr _ fun G hG => ⟨_, hG, ?_⟩) l1 m1 h2⟩
  rw [List.dropLast_eq_take, List.dropLast_eq_take, rs.length]
  exact rs.take _
theorem kvs_look {κ : Type} [DecidableEq κ] {K : PySem.W.Frag} {F : Hp} {ι : List Addr} {kvs : List (κ × V)} {es : List (κ × D)} (k1 : kvs.map (·.1) = es.map (·.1)) (k2 : Reps K F ι (kvs.map (·.2)) (es.map (·.2))) (k : κ) :
    (Z.look es k = none ∧ valV kvs k = none) ∨ ∃ v d, Z.look es k = some d ∧ valV kvs k = some v ∧ Rep K F ι v d := RKV.look k ⟨k1, k2⟩
theorem fp_pop1 {apos cp : Pos} (g : Good p N sc fn k X) (m : M1 X eo "pop" apos ea cp) (h0 : isStar ea = false) (ho : FH p X ρ S eo (hOf o ρ S (evE G o ρ S))) (ha : ∀ S, FE p X ρ S ea (evE G a ρ S)) :
    FP p X ρ S (.Call (.Attribute eo "pop" apos) [ea] [] cp) (evP G o (.cons a .nil) ρ S) := by
  intro Pr F ι α σ H R d ρ' S' e Q q
  unfold evP at e
  obtain ⟨⟨w, S1⟩, e1, e⟩ := Option.bind_eq_some_iff.mp e
  obtain ⟨⟨ds, S2⟩, e2, e⟩ := Option.bind_eq_some_iff.mp e
  split at e
  case isFalse => cases e
  rename_i hd
  obtain ⟨u, e3, e⟩ := Option.bind_eq_some_iff.mp e
  obtain ⟨r, e4, e⟩ := Option.bind_eq_some_iff.mp e
  obtain ⟨⟨ρ2, S3⟩, e5, e6⟩ := Option.map_eq_some_iff.mp e
  cases e6
  rw [e3] at hd
  rw [evA] at e2
  obtain ⟨⟨y, S2'⟩, e7, e8⟩ := Option.bind_eq_some_iff.mp e2
  rw [evA] at e8
  cases e8
  have fa : ∀ S, FA p X ρ S [ea] (evA G (.cons a .nil) ρ S) := fun S => fa_cons h0 (ha S) fun S => fa_nil
  cases u <;> try (cases y <;> cases e4)
  · rename_i xs
    cases y <;> try cases e4
    rename_i i
    simp only [popD] at e4
    split at e4
    case isFalse => cases e4
    rename_i hi
    obtain ⟨kk, e9, e10⟩ := Option.bind_eq_some_iff.mp e4
    obtain ⟨z, e11, e12⟩ := Option.map_eq_some_iff.mp e10
    cases e12
    refine wE_of (pe_bm PySem.F.plainAttrs_list PySem.F.slot_list_pop PySem.F.type_list_pop mt_popAt peW paW m.base m.few m.line (star_cons h0) rfl) (ho Pr F ι α σ H R _ _ e1 _ fun x F1 ι1 H1 R1 l1 m1 r1 => ?_)
    refine ⟨tyL_ofc g R1 r1 hd.1, fa S1 Pr F1 ι1 α σ H1 R1 _ _ (by rw [evA]; exact e2) _ fun vs F2 ι2 H2 R2 l2 m2 rs => ?_⟩
    cases rs with
    | cons rv rs =>
    cases rs
    cases rv
    obtain ⟨ad, rfl, cr, wr⟩ := putC_ok R2 (r1.le l2 m2) e3 e5
    obtain ⟨vs, hH, rs⟩ := cr
    obtain ⟨v, h1, h2⟩ := rs.at e11
    obtain ⟨b1, b2⟩ := smallI_ok hi
    exact ⟨ad, vs, _, kk, v, rfl, rfl, hH, by omega, by omega, by rw [rs.length]; exact e9, h1, q _ F2 ι2 _ (wr _ fun G hG => ⟨_, hG, rs.erase _⟩) (l1.trans l2) (m1.trans m2) h2⟩
  · rename_i es
    obtain ⟨key, e9, e10⟩ := Option.bind_eq_some_iff.mp e4
    obtain ⟨z, e11, e12⟩ := Option.map_eq_some_iff.mp e10
    cases e12
    refine wE_of (pe_dpop1 peW peW m) (ho Pr F ι α σ H R _ _ e1 _ fun x F1 ι1 H1 R1 l1 m1 r1 => ?_)
    obtain ⟨ad, rfl, hI⟩ := isD_ofc R1 r1 hd.2
    refine ⟨ad, rfl, hI, ha S1 Pr F1 ι1 α σ H1 R1 _ _ e7 _ fun yv F2 ι2 H2 R2 l2 m2 r2 => ?_⟩
    obtain ⟨ad2, ea2, cr, wr⟩ := putC_ok R2 (r1.le l2 m2) e3 e5
    cases ea2
    obtain ⟨kvs, hH, k1, k2⟩ := cr
    have hy := keyK_rep r2 e9
    subst hy
    rcases kvs_look k1 k2 key with ⟨h1, h2⟩ | ⟨v, d, h1, h2, h3⟩
    · rw [h1] at e11; cases e11
    · rw [h1] at e11; cases e11
      refine ⟨kvs, key, v, hH, rfl, h2, q _ F2 ι2 _ (wr _ fun G hG => ?_) (l1.trans l2) (m1.trans m2) h3⟩
      obtain ⟨z1, z2⟩ := RKV.drop key (⟨k1, k2⟩ : RKV p.K F2 ι2 kvs es)
      exact ⟨_, hG, z1, z2⟩
theorem popD2 {u y z : D} {r : D × D} (e : popD u [y, z] = some r) : ∃ es key, u = .dK es ∧ keyK y = some key ∧ r = match Z.look es key with
    | some v => (v, .dK (ddrop es key))
    | none => (z, .dK es) := by
  cases u with
  | dK es =>
    have e : (keyK y).map (fun k => match Z.look es k with
      | some v => (v, D.dK (ddrop es k))
      | none => (z, .dK es)) = some r := by cases y <;> exact e
    obtain ⟨key, e1, e2⟩ := Option.map_eq_some_iff.mp e
    exact ⟨es, key, rfl, e1, e2.symm⟩
  | _ => cases y <;> cases e
theorem fp_pop2 {apos cp : Pos} (g : Good p N sc fn k X) (m : M2 X eo "pop" apos ea eb cp) (ho : FH p X ρ S eo (hOf o ρ S (evE G o ρ S))) (ha : ∀ S, FE p X ρ S ea (evE G a ρ S)) (hb : ∀ S, FE p X ρ S eb (evE G b ρ S)) :
    FP p X ρ S (.Call (.Attribute eo "pop" apos) [ea, eb] [] cp) (evP G o (.cons a (.cons b .nil)) ρ S) := by
  intro Pr F ι α σ H R d ρ' S' e Q q
  unfold evP at e
  obtain ⟨⟨w, S1⟩, e1, e⟩ := Option.bind_eq_some_iff.mp e
  obtain ⟨⟨ds, S2⟩, e2, e⟩ := Option.bind_eq_some_iff.mp e
  split at e
  case isFalse => cases e
  rename_i hd
  obtain ⟨u, e3, e⟩ := Option.bind_eq_some_iff.mp e
  obtain ⟨r, e4, e⟩ := Option.bind_eq_some_iff.mp e
  obtain ⟨⟨ρ2, S3⟩, e5, e6⟩ := Option.map_eq_some_iff.mp e
  cases e6
  rw [e3] at hd
  rw [evA] at e2
  obtain ⟨⟨y, S2'⟩, e7, e8⟩ := Option.bind_eq_some_iff.mp e2
  rw [evA] at e8
  obtain ⟨⟨ds', S5⟩, e14, e9⟩ := Option.map_eq_some_iff.mp e8
  cases e9
  obtain ⟨⟨z, S6⟩, e10, e11⟩ := Option.bind_eq_some_iff.mp e14
  rw [evA] at e11
  cases e11
  obtain ⟨es, key, rfl, e12, e13⟩ := popD2 e4
  refine wE_of (pe_dpop2 peW peW peW m) (ho Pr F ι α σ H R _ _ e1 _ fun x F1 ι1 H1 R1 l1 m1 r1 => ?_)
  obtain ⟨ad, rfl, hI⟩ := isD_ofc R1 r1 hd.2
  refine ⟨ad, rfl, hI, ha S1 Pr F1 ι1 α σ H1 R1 _ _ e7 _ fun yv F2 ι2 H2 R2 l2 m2 r2 => hb _ Pr F2 ι2 α σ H2 R2 _ _ e10 _ fun zv F3 ι3 H3 R3 l3 m3 r3 => ?_⟩
  obtain ⟨ad2, ea2, cr, wr⟩ := putC_ok R3 ((r1.le l2 m2).le l3 m3) e3 e5
  cases ea2
  obtain ⟨kvs, hH, k1, k2⟩ := cr
  have hy := keyK_rep (r2.le l3 m3) e12
  subst hy
  refine ⟨kvs, key, hH, rfl, ?_, ?_⟩
  · intro v hv
    rcases kvs_look k1 k2 key with ⟨h1, h2⟩ | ⟨v', d, h1, h2, h3⟩
    · rw [h2] at hv; cases hv
    · rw [h2] at hv; cases hv
      rw [h1] at e13; subst e13
      refine q _ F3 ι3 _ (wr _ fun G hG => ?_) ((l1.trans l2).trans l3) ((m1.trans m2).trans m3) h3
      obtain ⟨z1, z2⟩ := RKV.drop key (⟨k1, k2⟩ : RKV p.K F3 ι3 kvs es)
      exact ⟨_, hG, z1, z2⟩
  · intro hv
    rcases kvs_look k1 k2 key with ⟨h1, h2⟩ | ⟨v', d, h1, h2, h3⟩
    · rw [h1] at e13; subst e13
      have := wr (.dK kvs) fun G hG => ⟨kvs, hG, k1, k2⟩
      have hs : upd H3 ad (.dK kvs) = H3 := by
        funext b
        by_cases hb : b = ad
        · subst hb; rw [upd_same, hH]
        · rw [upd_ne hb]
      rw [hs] at this
      exact q _ F3 ι3 _ this ((l1.trans l2).trans l3) ((m1.trans m2).trans m3) r3
    · rw [h2] at hv; cases hv
end
end Z

set_option Elab.async false
set_option linter.all false
set_option maxRecDepth 100000
set_option maxHeartbeats 4000000
namespace Z
open PySem PySem.Spec PyProof.Rows L2

/-! # defs -/
/-- what a def gives back: value and store -/
def Back (p : Pg) (Pr F : Hp) (ι : List Addr) (d : D) (S' : Store) : VK := fun v H' => ∃ F' ι', Wd p Pr S' F' ι' H' ∧ LeH F F' ∧ LeA ι ι' ∧ Rep p.K F' ι' v d
structure FnG (p : Pg) (k : Nat) (f : Addr) (fd : FuncData) (ps : List Str) (g : List D → Store → Option (D × Store)) : Prop where
  len : ∀ ds S r, g ds S = some r → ds.length = ps.length
  run : ∀ (A : Around) (outer : List Env) (s : Shared) (H : Hp) (args : Args) (us : List Value) (vs : List V) (ds : List D) (S S' : Store) (d : D) (Pr F : Hp) (ι : List Addr), Room k A → A.guards = some [] → Env0 p.P p.w p.K p.mg p.base A outer s H → BindsTo s fd args (ps.zip us) →
    Vals vs us → Reps p.K F ι vs ds → Wd p Pr S F ι H → g ds S = some (d, S') →
    codeAny (model p.P p.w) A (.call (.ref f) args) (fun r s' => ∃ u, r = .ok (.ret u) ∧ CE outer p.P p.w H s (Back p Pr F ι d S') u s') s
theorem FnG.mono {p : Pg} {j k : Nat} {f : Addr} {fd : FuncData} {ps : List Str} {g : List D → Store → Option (D × Store)} (h : FnG p j f fd ps g) (l : j ≤ k) : FnG p k f fd ps g :=
  ⟨h.len, fun A outer s H args us vs ds S S' d Pr F ι r => h.run A outer s H args us vs ds S S' d Pr F ι (r.mono l)⟩
/-- the defs keep their promises at level k -/
structure GoodF (p : Pg) (k : Nat) (G : Fns) : Prop extends FldOk p G where
  fn : ∀ x ds S r, G.fn (x, none) ds S = some r → ∃ f fd ps, p.mg x = some (.ref f) ∧ PySem.W.keepIn p.K (.ref f) = true ∧ Binds p.K fd ps [] ∧ FnG p k f fd ps (G.fn (x, none))
  mt : ∀ C m ds S r, G.fn (C, some m) ds S = some r → ∃ Ca f fd ps, p.mg C = some (.ref Ca) ∧ p.cls C = some Ca ∧ Cls p.K Ca ∧ Meth p.K Ca m f ∧ Binds p.K fd ps [] ∧ FnG p k f fd ps (G.fn (C, some m)) ∧ (m = "__init__" → Mk p.K Ca f)
section
open Classical
/-- the names' own containers are the callee's to leave alone -/
noncomputable def grd (Pr : Hp) (ρ : Env') (α : Nat → Addr) (H : Hp) : Hp := fun a => if ∃ i d, ρ[i]? = some (.own d) ∧ α i = a then H a else Pr a
variable {p : Pg} {Pr : Hp} {ρ : Env'} {S : Store} {F : Hp} {ι : List Addr} {α : Nat → Addr} {σ : L2.St} {H : Hp}
theorem grd_wd (R : Rel p Pr ρ S F ι α σ H) : Wd p (grd Pr ρ α H) S F ι H where
  sub := R.wd.sub
  con := R.wd.con
  len := R.wd.len
  tab := ⟨R.wd.tab.t, R.wd.tab.f, fun a ps h => by
    unfold grd at h
    split at h
    · rename_i q
      obtain ⟨i, d, h1, rfl⟩ := q
      obtain ⟨_, _, _, k4, _⟩ := R.own i d h1
      obtain ⟨_, z1, z2⟩ := k4.nte
      rw [h] at z1; cases z1; exact z2 trivial
    · exact R.wd.tab.p a ps h⟩
  nd := R.wd.nd
  cell := R.wd.cell
  prot := fun a o h => by
    unfold grd at h
    split at h
    · rename_i q
      obtain ⟨i, d, h1, rfl⟩ := q
      obtain ⟨k1, k2, k3, k4, k5⟩ := R.own i d h1
      exact ⟨h, .inl k2, fun n c h2 _ => absurd (List.mem_of_getElem? h2) k3⟩
    · exact R.wd.prot a o h
theorem grd_back {S' : Store} {F' : Hp} {ι' : List Addr} {H' : Hp} (R : Rel p Pr ρ S F ι α σ H) (W : Wd p (grd Pr ρ α H) S' F' ι' H') (l : LeH F F') (m : LeA ι ι') : Rel p Pr ρ S' F' ι' α σ H' where
  wd := {
    sub := W.sub
    con := W.con
    len := W.len
    tab := ⟨W.tab.t, W.tab.f, R.wd.tab.p⟩
    nd := W.nd
    cell := W.cell
    prot := fun a o h => by
      refine W.prot a o ?_
      unfold grd
      split
      · rename_i q
        obtain ⟨i, d, h1, rfl⟩ := q
        rw [(R.own i d h1).2.2.2.2] at h; cases h
      · exact h }
  fz := fun i d h => let ⟨v, h1, h2⟩ := R.fz i d h; ⟨v, h1, h2.le l m⟩
  own := fun i d h => by
    obtain ⟨k1, k2, k3, k4, k5⟩ := R.own i d h
    obtain ⟨o, t, _, _, nl⟩ := k4.there
    have hg : grd Pr ρ α H (α i) = some o := by
      unfold grd
      rw [if_pos ⟨i, d, h, rfl⟩]; exact t
    obtain ⟨q1, q2, q3⟩ := W.prot _ _ hg
    refine ⟨k1, q2.resolve_right nl, fun hm => ?_, k4.le l m (q1.trans t.symm), k5⟩
    obtain ⟨n, hn⟩ := List.getElem?_of_mem hm
    have hl : n < S'.length := by rw [← W.len]; exact (List.getElem?_eq_some_iff.mp hn).1
    obtain ⟨d', hd⟩ := q3 n S'[n] hn (List.getElem?_eq_getElem hl)
    obtain ⟨_, c⟩ := W.cell n S'[n] _ (List.getElem?_eq_getElem hl) hn
    rw [hd] at c
    obtain ⟨ob, o', c⟩ := LRep.there c
    rw [q1] at c; cases c
    exact nl trivial
  lng := R.lng
  inj := R.inj
end
section
variable {p : Pg} {N : List Str} {sc : Scope} {fn : Str → Bool} {k : Nat} {X : Cx} {G : Fns} {ρ : Env'} {S : Store} {e ea eb ec eo tg : Expr} {pos : Pos} {a b c o : Ex}
/-- a callee runs -/
theorem go_fn {f : Addr} {fd : FuncData} {ps : List Str} {gf : List D → Store → Option (D × Store)} {Pr F : Hp} {ι : List Addr} {α : Nat → Addr} {σ : L2.St} {H : Hp} {pins : List (Addr × Obj)} {s : Shared} {us : List Value} {vs : List V} {ds : List D} {d : D} {S' : Store} {Q : VK}
    (K : FnG p k f fd ps gf) (hb : Binds p.K fd ps []) (g : Good p N sc fn (k + 1) X) (I : Inv X pins σ H s) (rv : Vals vs us) (R : Rel p Pr ρ S F ι α σ H) (rs : Reps p.K F ι vs ds) (e : gf ds S = some (d, S'))
    (q : ∀ v F' ι' H', Rel p Pr ρ S' F' ι' α σ H' → LeH F F' → LeA ι ι' → Rep p.K F' ι' v d → Q v H') : wpAny (model X.prog X.w) X.A (call (.ref f) us) (EP X pins σ Q) X.xe s := by
  obtain ⟨cl, cn, T, rfl⟩ : ∃ cl cn T, p = X.pg cl cn T := ⟨p.cls, p.con, p.T, g.pg.symm⟩
  have hl : us.length = ps.length := by rw [← rv.length, rs.length]; exact K.len _ _ _ e
  have bd := hb s us I.kIn (by rw [List.append_nil]; exact hl)
  rw [List.append_nil] at bd
  refine wpAny_call (codeAny_mono (K.run X.A X.stack s H ⟨us, []⟩ us vs ds S S' d _ F ι (g.room.mono (Nat.le_succ _)) g.grd I.env0 bd rv rs (grd_wd R) e) fun r s' hr => ?_)
  obtain ⟨u, rfl, v, H', os, bare, un, hok, ru, F', ι', W, l, m, rr⟩ := hr
  exact I.after ⟨v, H', os, bare, un, hok, ru, q v F' ι' H' (grd_back R W l m) l m rr⟩
theorem fe_call {x : Str} {ps : Pos} {es : List Expr} {as : Ar} (g : Good p N sc fn (k + 1) X) (gf : GoodF p k G) (hg : sc.names.lookup x = some .globalImplicit) (hd : (x == ("__debug__" : Str)) = false) (h0 : isStar ea = false) (hpl : (es.all fun e => !isStar e) = true) (ha : FA p X ρ S (ea :: es) (evA G as ρ S)) :
    FE p X ρ S (.Call (.Name x ps) (ea :: es) [] pos) (evE G (.call x as) ρ S) := by
  intro Pr F ι α σ H R d S' e Q q pins s I
  rw [evE] at e
  obtain ⟨⟨ds, S1⟩, e1, e2⟩ := Option.bind_eq_some_iff.mp e
  obtain ⟨f, fd, prm, m1, kp, bd, K⟩ := gf.fn x _ _ _ e2
  have hG : Gl X x := by show X.env.scope.names.lookup x = _; rw [g.sc]; exact hg
  have hM : X.mg x = some (.ref f) := by rw [← m1, ← g.pg]; rfl
  have hk : PySem.W.keepIn X.K (.ref f) = true := by rw [g.K]; exact kp
  have wa := ha Pr F ι α σ H R _ _ e1 (fun vs H' => ∃ F' ι', Rel p Pr ρ S1 F' ι' α σ H' ∧ LeH F F' ∧ LeA ι ι' ∧ Reps p.K F' ι' vs ds) fun vs F' ι' H' R' l m rs => ⟨F', ι', R', l, m, rs⟩
  refine wpAny_Call_Name_kw (ld_glob I hG hM ?_ hd)
  refine PySem.W.callWith_K (h₀ := X.base) I.ok.mod.kin hk (thn (wa pos pins s I) fun us s1 hx => ?_) (star_cons h0) (star_all hpl).1
  obtain ⟨vs, H1, I1, rv, F1, ι1, R1, l1, mm, rs⟩ := hx
  exact ⟨I1.kIn, go_fn K bd g I1 rv R1 rs e2 fun v F' ι' H' R' l m rr => q v F' ι' H' R' (l1.trans l) (mm.trans m) rr⟩
theorem fe_call0 {x : Str} {ps : Pos} (g : Good p N sc fn (k + 1) X) (gf : GoodF p k G) (hg : sc.names.lookup x = some .globalImplicit) (hd : (x == ("__debug__" : Str)) = false) :
    FE p X ρ S (.Call (.Name x ps) [] [] pos) (evE G (.call x .nil) ρ S) := by
  intro Pr F ι α σ H R d S' e Q q pins s I
  rw [evE] at e
  obtain ⟨⟨ds, S1⟩, e1, e2⟩ := Option.bind_eq_some_iff.mp e
  rw [evA] at e1
  cases e1
  obtain ⟨f, fd, prm, m1, kp, bd, K⟩ := gf.fn x _ _ _ e2
  have hG : Gl X x := by show X.env.scope.names.lookup x = _; rw [g.sc]; exact hg
  have hM : X.mg x = some (.ref f) := by rw [← m1, ← g.pg]; rfl
  have hk : PySem.W.keepIn X.K (.ref f) = true := by rw [g.K]; exact kp
  refine wpAny_Call_Name_kw (ld_glob I hG hM ?_ hd)
  exact PySem.W.callWith_K0 I.kIn hk (go_fn (us := []) K bd g I .nil R .nil e2 q)
theorem getm {Pr F : Hp} {ι : List Addr} {α : Nat → Addr} {σ : L2.St} {H : Hp} {x : V} {n : Nat} {C : Str} {fs : List (Str × D)} (R : Rel p Pr ρ S F ι α σ H) (r : Rep p.K F ι x (.ref n)) (hc : S[n]? = some (.ins C fs)) :
    ∃ ad Ca dx fv, x = .ref ad ∧ p.cls C = some Ca ∧ H ad = some (.ins Ca dx fv) ∧ ∀ m : Str, (fs.lookup m).isNone = true → fv.lookup m = none := by
  cases r with
  | @ref n ad hn =>
  obtain ⟨b, hb, hF, Ca, dx, fv, h1, h2, h3, h4⟩ := R.wd.at hc
  rw [hn] at hb; cases hb
  exact ⟨ad, Ca, dx, fv, rfl, h1, h2, fun m hm => fs_none h3 hm⟩
theorem fe_meth {m : Str} {apos : Pos} {es : List Expr} {as : Ar} {pl : Sem Bool} (g : Good p N sc fn (k + 1) X) (gf : GoodF p k G) (h0 : isStar ea = false) (hpl : (es.all fun e => !isStar e) = true)
    (ht : eval (.Call (.Attribute eo m apos) (ea :: es) [] pos) X.env = (do
      let ov ← eval eo X.env
      standAt apos.atName
      let (f, first) ← holding [ov] (getMethod ov m pl)
      callWith pos f first (backTo pos (starEach (ea :: es) X.env)) (backToKw pos (keywordEach [] X.env))))
    (ho : FE p X ρ S eo (evE G o ρ S)) (ha : ∀ S, FA p X ρ S (ea :: es) (evA G as ρ S)) : FE p X ρ S (.Call (.Attribute eo m apos) (ea :: es) [] pos) (evE G (.meth o m as) ρ S) := by
  intro Pr F ι α σ H R d S' e Q q pins s I
  rw [evE] at e
  obtain ⟨⟨u, S1⟩, e1, e⟩ := Option.bind_eq_some_iff.mp e
  cases u <;> try cases e
  rename_i n
  simp only at e
  split at e
  case h_2 => cases e
  rename_i C fs hc
  split at e
  case isFalse => cases e
  rename_i hfs
  obtain ⟨⟨ds, S2⟩, e2, e3⟩ := Option.bind_eq_some_iff.mp e
  obtain ⟨Ca, f, fd, prm, m0, m1, cl, mt, bd, K, _⟩ := gf.mt C m _ _ _ e3
  rw [← g.K] at cl mt
  have wo := ho Pr F ι α σ H R _ _ e1 (fun v H' => ∃ F' ι', Rel p Pr ρ S1 F' ι' α σ H' ∧ LeH F F' ∧ LeA ι ι' ∧ Rep p.K F' ι' v (.ref n)) fun v F' ι' H' R' l m r => ⟨F', ι', R', l, m, r⟩
  refine PySem.W.methodCall_KW (pl := pl) (thn (wo pins s I) fun w s1 hx => ?_) ht
  obtain ⟨x, H1, I1, rx, F1, ι1, R1, l1, m1', r1⟩ := hx
  obtain ⟨ad, Ca', dx, fv, rfl, k1, k2, k3⟩ := getm R1 r1 hc
  rw [m1] at k1; cases k1
  obtain rfl : w = Value.ref ad := rx
  refine getmeth_ok I1 k2 cl mt (k3 m hfs) ?_
  have wa := ha S1 Pr F1 ι1 α σ H1 R1 _ _ e2 (fun vs H' => ∃ F' ι', Rel p Pr ρ S2 F' ι' α σ H' ∧ LeH F1 F' ∧ LeA ι1 ι' ∧ Reps p.K F' ι' vs ds) fun vs F' ι' H' R' l m rs => ⟨F', ι', R', l, m, rs⟩
  refine PySem.W.callWith_K (first := [.ref ad]) (h₀ := X.base) I.ok.mod.kin mt.kp (thn (wa pos pins s1 I1) fun us s2 hx => ?_) (star_cons h0) (star_all hpl).1
  obtain ⟨vs, H2, I2, rv, F2, ι2, R2, l2, m2, rs⟩ := hx
  exact ⟨I2.kIn, go_fn (us := .ref ad :: us) (vs := .ref ad :: vs) K bd g I2 (.cons rfl rv) R2 (.cons (r1.le l2 m2) rs) e3 fun v F' ι' H' R' l m rr => q v F' ι' H' R' ((l1.trans l2).trans l) ((m1'.trans m2).trans m) rr⟩
theorem fe_meth0 {m : Str} {apos : Pos} {pl : Sem Bool} (g : Good p N sc fn (k + 1) X) (gf : GoodF p k G)
    (ht : eval (.Call (.Attribute eo m apos) [] [] pos) X.env = (do
      let ov ← eval eo X.env
      standAt apos.atName
      let (f, first) ← holding [ov] (getMethod ov m pl)
      callWith pos f first (backTo pos (starEach [] X.env)) (backToKw pos (keywordEach [] X.env))))
    (ho : FE p X ρ S eo (evE G o ρ S)) : FE p X ρ S (.Call (.Attribute eo m apos) [] [] pos) (evE G (.meth o m .nil) ρ S) := by
  intro Pr F ι α σ H R d S' e Q q pins s I
  rw [evE] at e
  obtain ⟨⟨u, S1⟩, e1, e⟩ := Option.bind_eq_some_iff.mp e
  cases u <;> try cases e
  rename_i n
  simp only at e
  split at e
  case h_2 => cases e
  rename_i C fs hc
  split at e
  case isFalse => cases e
  rename_i hfs
  obtain ⟨⟨ds, S2⟩, e2, e3⟩ := Option.bind_eq_some_iff.mp e
  rw [evA] at e2
  cases e2
  obtain ⟨Ca, f, fd, prm, m0, m1, cl, mt, bd, K, _⟩ := gf.mt C m _ _ _ e3
  rw [← g.K] at cl mt
  have wo := ho Pr F ι α σ H R _ _ e1 (fun v H' => ∃ F' ι', Rel p Pr ρ S1 F' ι' α σ H' ∧ LeH F F' ∧ LeA ι ι' ∧ Rep p.K F' ι' v (.ref n)) fun v F' ι' H' R' l m r => ⟨F', ι', R', l, m, r⟩
  refine PySem.W.methodCall_KW (pl := pl) (thn (wo pins s I) fun w s1 hx => ?_) ht
  obtain ⟨x, H1, I1, rx, F1, ι1, R1, l1, m1', r1⟩ := hx
  obtain ⟨ad, Ca', dx, fv, rfl, k1, k2, k3⟩ := getm R1 r1 hc
  rw [m1] at k1; cases k1
  obtain rfl : w = Value.ref ad := rx
  refine getmeth_ok I1 k2 cl mt (k3 m hfs) ?_
  exact PySem.W.callWith_K0 (first := [.ref ad]) I1.kIn mt.kp (go_fn (us := [.ref ad]) (vs := [.ref ad]) K bd g I1 (.cons rfl .nil) R1 (.cons r1 .nil) e3 fun v F' ι' H' R' l m rr => q v F' ι' H' R' (l1.trans l) (m1'.trans m) rr)
theorem go_mk {C : Str} {Ca f : Addr} {fd : FuncData} {ps : List Str} {gf : List D → Store → Option (D × Store)} {Pr F : Hp} {ι : List Addr} {α : Nat → Addr} {σ : L2.St} {H : Hp} {pins : List (Addr × Obj)} {s : Shared} {us : List Value} {vs : List V} {ds : List D} {S' : Store} {Q : VK}
    (hC : p.cls C = some Ca) (M : Mk p.K Ca f) (K : FnG p k f fd ps gf) (hb : Binds p.K fd ps []) (g : Good p N sc fn (k + 1) X) (I : Inv X pins σ H s) (rv : Vals vs us) (R : Rel p Pr ρ S F ι α σ H) (rs : Reps p.K F ι vs ds) (e : gf (.ref S.length :: ds) (S ++ [.ins C []]) = some (.non, S'))
    (q : ∀ v F' ι' H', Rel p Pr ρ S' F' ι' α σ H' → LeH F F' → LeA ι ι' → Rep p.K F' ι' v (.ref S.length) → Q v H') : wpAny (model X.prog X.w) X.A (call (.ref Ca) us) (EP X pins σ Q) X.xe s := by
  obtain ⟨cl, cn, T, rfl⟩ : ∃ cl cn T, p = X.pg cl cn T := ⟨p.cls, p.con, p.T, g.pg.symm⟩
  have I2 := Inv.made (C := Ca) I
  generalize hd : s.heap.objs.size = dx at I2
  have n1 : H dx = none := I.hok.fresh (Nat.le_of_eq hd)
  have n2 : H (dx + 1) = none := I.hok.fresh (by rw [hd]; exact Nat.le_succ _)
  have ne : dx ≠ dx + 1 := Nat.ne_of_lt (Nat.lt_succ_self _)
  have n3 : upd H dx (.own (dx + 1)) (dx + 1) = none := by rw [upd_ne (fun z => ne z.symm)]; exact n2
  have R1 := R.grow (F' := F) (H' := upd (upd H dx (.own (dx + 1))) (dx + 1) (.ins Ca dx [])) ⟨(LeH.upd n1).trans (LeH.upd n3), LeH.refl _, fun b u z => .inl z, fun b ps z => z⟩
  have hF := R.wd.fresh n2
  obtain ⟨R2, at2⟩ := R1.addC (a := dx + 1) (c := .ins C []) ⟨Ca, dx, [], hC, upd_same, rfl, .nil⟩ hF (R.wd.notin n2) (by
    cases z : Pr (dx + 1) with
    | none => rfl
    | some u => rw [(R.wd.prot _ u z).1] at n2; cases n2) (fun j e hj z => by
    obtain ⟨_, _, _, h4, _⟩ := R.own j e hj
    obtain ⟨u, t, _⟩ := h4.there
    rw [z, n2] at t; cases t)
  have rs2 : Reps X.K F (ι ++ [dx + 1]) (.ref (dx + 1) :: vs) (.ref S.length :: ds) := .cons (.ref at2) (rs.le (LeH.refl _) (LeA.app _ _))
  have rv2 : Vals (V.ref (dx + 1) :: vs) (Value.ref (dx + 1) :: us) := .cons rfl rv
  have hl : (Value.ref (dx + 1) :: us).length = ps.length := by rw [← rv2.length, rs2.length]; exact K.len _ _ _ e
  subst hd
  have bd := hb _ (Value.ref (s.heap.objs.size + 1) :: us) I2.kIn (by rw [List.append_nil]; exact hl)
  rw [List.append_nil] at bd
  have gd : (X.A.under (.builtin "type.__call__" ⟨.ref Ca :: us, []⟩)).guards = some [] := by
    first
      | exact g.grd
      | (simpa [Around.under, Code.isGuard, guardIds] using g.grd)
  refine wpAny_call (make_map (f := f) I.kIn M.makes M.init (beq_iff_eq.mp M.fn) (codeAny_mono (K.run _ X.stack _ _ ⟨Value.ref (s.heap.objs.size + 1) :: us, []⟩ (Value.ref (s.heap.objs.size + 1) :: us) _ _ _ _ _ _ F (ι ++ [s.heap.objs.size + 1]) (g.room.make Ca us []) gd (I2.env0.make Ca us []) bd rv2 rs2 (grd_wd R2) e) fun r s' hr => ?_))
  obtain ⟨u, rfl, v, H', os, bare, un, hok, ru, F', ι', W, l, m, rr⟩ := hr
  obtain ⟨v', H2, I3, rv', ev, hq⟩ := I2.after (Q := fun v'' H2 => v'' = v ∧ H2 = H') ⟨v, H', os, bare, un, hok, ru, rfl, rfl⟩
  cases rr
  subst ev hq
  exact ⟨rv', .ref (s.heap.objs.size + 1), H2, I3, rfl, q _ F' ι' H2 (grd_back R2 W l m) l ((LeA.app _ _).trans m) (.ref (m _ _ at2))⟩
theorem mk_non {y : D × Store} {n : Nat} {d : D} {S' : Store} (e : (match y.1 with
      | .non => some (D.ref n, y.2)
      | _ => none) = some (d, S')) : y = (.non, S') ∧ d = .ref n := by
  obtain ⟨y1, y2⟩ := y
  cases y1 <;> cases e
  exact ⟨rfl, rfl⟩
theorem fe_mk {x : Str} {ps : Pos} {es : List Expr} {as : Ar} (g : Good p N sc fn (k + 1) X) (gf : GoodF p k G) (hg : sc.names.lookup x = some .globalImplicit) (hd : (x == ("__debug__" : Str)) = false) (h0 : isStar ea = false) (hpl : (es.all fun e => !isStar e) = true) (ha : FA p X ρ S (ea :: es) (evA G as ρ S)) :
    FE p X ρ S (.Call (.Name x ps) (ea :: es) [] pos) (evE G (.mk x as) ρ S) := by
  intro Pr F ι α σ H R d S' e Q q pins s I
  rw [evE] at e
  obtain ⟨⟨ds, S1⟩, e1, e2⟩ := Option.bind_eq_some_iff.mp e
  obtain ⟨y, e4, e3⟩ := Option.bind_eq_some_iff.mp e2
  obtain ⟨rfl, rfl⟩ := mk_non e3
  obtain ⟨Ca, f, fd, prm, m0, m1, cl, mt, bd, K, mk⟩ := gf.mt x _ _ _ _ e4
  have mk := mk rfl
  have hG : Gl X x := by show X.env.scope.names.lookup x = _; rw [g.sc]; exact hg
  have hM : X.mg x = some (.ref Ca) := by rw [← m0, ← g.pg]; rfl
  have hk : PySem.W.keepIn X.K (.ref Ca) = true := by rw [g.K]; exact mk.kp
  have wa := ha Pr F ι α σ H R _ _ e1 (fun vs H' => ∃ F' ι', Rel p Pr ρ S1 F' ι' α σ H' ∧ LeH F F' ∧ LeA ι ι' ∧ Reps p.K F' ι' vs ds) fun vs F' ι' H' R' l m rs => ⟨F', ι', R', l, m, rs⟩
  refine wpAny_Call_Name_kw (ld_glob I hG hM ?_ hd)
  refine PySem.W.callWith_K (h₀ := X.base) I.ok.mod.kin hk (thn (wa pos pins s I) fun us s1 hx => ?_) (star_cons h0) (star_all hpl).1
  obtain ⟨vs, H1, I1, rv, F1, ι1, R1, l1, mm, rs⟩ := hx
  exact ⟨I1.kIn, go_mk m1 mk K bd g I1 rv R1 rs e4 fun v F' ι' H' R' l m rr => q v F' ι' H' R' (l1.trans l) (mm.trans m) rr⟩
theorem fe_mk0 {x : Str} {ps : Pos} (g : Good p N sc fn (k + 1) X) (gf : GoodF p k G) (hg : sc.names.lookup x = some .globalImplicit) (hd : (x == ("__debug__" : Str)) = false) :
    FE p X ρ S (.Call (.Name x ps) [] [] pos) (evE G (.mk x .nil) ρ S) := by
  intro Pr F ι α σ H R d S' e Q q pins s I
  rw [evE] at e
  obtain ⟨⟨ds, S1⟩, e1, e2⟩ := Option.bind_eq_some_iff.mp e
  rw [evA] at e1
  cases e1
  obtain ⟨y, e4, e3⟩ := Option.bind_eq_some_iff.mp e2
  obtain ⟨rfl, rfl⟩ := mk_non e3
  obtain ⟨Ca, f, fd, prm, m0, m1, cl, mt, bd, K, mk⟩ := gf.mt x _ _ _ _ e4
  have mk := mk rfl
  have hG : Gl X x := by show X.env.scope.names.lookup x = _; rw [g.sc]; exact hg
  have hM : X.mg x = some (.ref Ca) := by rw [← m0, ← g.pg]; rfl
  have hk : PySem.W.keepIn X.K (.ref Ca) = true := by rw [g.K]; exact mk.kp
  refine wpAny_Call_Name_kw (ld_glob I hG hM ?_ hd)
  exact PySem.W.callWith_K0 I.kIn hk (go_mk (us := []) m1 mk K bd g I .nil R .nil e4 q)
end

/-! # a def by its body -/
def stS (N : List Str) (ps : List Str) (ds : List D) : Env' := ds.map Slot.fz ++ List.replicate (N.length - ps.length) .un
def outR : Out → Option (D × Store)
  | .ret d S' => some (d, S')
  | .nxt _ S' => some (.non, S')
  | _ => none
theorem rel_start {p : Pg} {Pr : Hp} {S : Store} {F : Hp} {ι : List Addr} {H : Hp} {N ps : List Str} {vs : List V} {ds : List D} (α : Nat → Addr) (W : Wd p Pr S F ι H) (rs : Reps p.K F ι vs ds) (hl : ds.length = ps.length) : Rel p Pr (stS N ps ds) S F ι α (L2.start N vs) H where
  wd := W
  fz := fun i d h => by
    unfold stS at h
    by_cases hi : i < ds.length
    · rw [List.getElem?_append_left (by simpa using hi), List.getElem?_map] at h
      obtain ⟨e, h1, h2⟩ := Option.map_eq_some_iff.mp h
      cases h2
      obtain ⟨v, h3, h4⟩ := rs.at h1
      refine ⟨v, ?_, h4⟩
      unfold L2.start
      rw [List.getElem?_append_left (by rw [List.length_map, rs.length]; exact hi), List.getElem?_map, h3]; rfl
    · rw [List.getElem?_append_right (by simpa using hi), List.getElem?_replicate] at h
      split at h <;> cases h
  own := fun i d h => by
    unfold stS at h
    by_cases hi : i < ds.length
    · rw [List.getElem?_append_left (by simpa using hi), List.getElem?_map] at h
      obtain ⟨e, h1, h2⟩ := Option.map_eq_some_iff.mp h
      cases h2
    · rw [List.getElem?_append_right (by simpa using hi), List.getElem?_replicate] at h
      split at h <;> cases h
  lng := by
    unfold stS L2.start
    rw [List.length_append, List.length_append, List.length_map, List.length_map, List.length_replicate, List.length_replicate, rs.length, hl]
    exact Nat.le_refl _
  inj := fun i j d e h _ _ => by
    unfold stS at h
    by_cases hi : i < ds.length
    · rw [List.getElem?_append_left (by simpa using hi), List.getElem?_map] at h
      obtain ⟨e, h1, h2⟩ := Option.map_eq_some_iff.mp h
      cases h2
    · rw [List.getElem?_append_right (by simpa using hi), List.getElem?_replicate] at h
      split at h <;> cases h
theorem def_ok {p : Pg} {k : Nat} {f : Addr} {name qual : Str} {params : Arguments} {body : List Stmt} {scope : Scope} {dV kV doc pm cdv ct oc : Value} {an od : Option Addr} {osl : Array (Option Value)} {N ps : List Str} {r : Env' → Store → Option Out}
    (lk : p.K.lookup f = some ⟨oc, od, .func (PySem.W.fnOf name qual params body scope dV kV doc pm an cdv ct), osl⟩) (hcd : PySem.W.codeIn p.K cdv qual = true) (sc : FnScope N ps scope)
    (hlam : ("<lam>" : Str) ∈ N → LamOf p cdv (qual ++ ".<locals>."))
    (hb : ∀ X, Good p N scope (fun _ => true) k X → ∀ ρ S, FSs p X ρ S body (r ρ S)) :
    FnG p (k + 1) f (PySem.W.fnOf name qual params body scope dV kV doc pm an cdv ct) ps (fun ds S => if ds.length = ps.length then (r (stS N ps ds) S).bind outR else none) := by
  refine ⟨fun ds S q h => ?_, fun A outer s H args us vs ds S S' d Pr F ι hr hg e0 hbd rv rs W e => ?_⟩
  · split at h
    · assumption
    · cases h
  · split at e
    case isFalse => cases e
    rename_i hl
    obtain ⟨o, e1, e2⟩ := Option.bind_eq_some_iff.mp e
    have hl2 : vs.length = ps.length := by rw [rs.length]; exact hl
    have KX : p.K.In s.heap := e0.mod.kin.keeps fun b ob z => (e0.bs b ob z).1
    have lim : s.heap.NoLimit := e0.mod.nolimit.keeps fun b ob z => (e0.bs b ob z).1
    have kinds : ∀ y ∈ ps.zip us, scope.names.lookup y.1 = some .local ∨ (scope.names.lookup y.1 = some .cell ∧ ((cellsFrom (s.heap.objs.size + 1) scope.names []).lookup y.1).isSome = true) := fun ⟨n, v⟩ hy =>
      (sc.par n (List.of_mem_zip hy).1).imp id fun z => ⟨z, PySem.W.cellsFrom_some _ _ _ (.inl z)⟩
    refine codeAny_call_function hr.depth (KX _ _ lk) rfl sc.co sc.gen rfl (PySem.W.codeRec_of KX hcd) (hbd _ _ _ _ ?_)
    refine wpAny_newFunctionEnv_cells sc.kind kinds fun env he s1 x => ?_
    subst he
    refine ⟨lim.keeps x.toInCall.keep, codeAny_func ?_⟩
    have I : Inv (cxOf CX0 p.P p.w p.K p.mg p.base N qual scope f cdv A outer s H E0) [] (L2.start N vs) H s1 := inv_start sc hr.hd e0 hl2 rv x
    have good : Good p N scope (fun _ => true) k (cxOf CX0 p.P p.w p.K p.mg p.base N qual scope f cdv A outer s H E0).nox := {
      pg := rfl
      calm := rfl
      hN := rfl
      nd := sc.nd
      sc := rfl
      fn := rfl
      xe := rfl
      room := hr.deeper _
      grd := hg
      lam := hlam }
    have pss : PSs (cxOf CX0 p.P p.w p.K p.mg p.base N qual scope f cdv A outer s H E0) body (wSs (cxOf CX0 p.P p.w p.K p.mg p.base N qual scope f cdv A outer s H E0).nox body) := PSs.nox pssW
    have fin : ∀ {σ' : L2.St} {H' : Hp} {v : V} {u : Value} {s' : Shared}, Inv (cxOf CX0 p.P p.w p.K p.mg p.base N qual scope f cdv A outer s H E0) [] σ' H' s' → RelV v u → Back p Pr F ι d S' v H' → CE outer p.P p.w H s (Back p Pr F ι d S') u s' :=
      fun {σ' H' v u s'} J z q => ⟨v, H', J.os, J.bare, J.base, J.hok, z, q⟩
    refine wpAny_mono (pss.run [] s1 (L2.start N vs) H { nx := fun _ H' => Back p Pr F ι d S' .non H', rt := Back p Pr F ι d S' } I (hb _ good _ S Pr F ι (fun _ => 0) _ H (rel_start _ W rs hl) o e1 _ ?_)) (fun fl s' hs => ?_) fun ex s' hs => ?_
    · cases o with
      | nxt ρ2 S2 =>
        cases e2
        exact fun F' ι' α' σ' H' R' l m => ⟨F', ι', R'.wd, l, m, .non⟩
      | ret d2 S2 =>
        cases e2
        exact fun v F' ι' H' W' l m z => ⟨F', ι', W', l, m, z⟩
      | brk ρ2 S2 => cases e2
      | cnt ρ2 S2 => cases e2
    · cases fl with
      | ret u =>
        obtain ⟨v, σ', H', J, z, q⟩ := hs
        exact ⟨u, rfl, fin J z q⟩
      | next =>
        obtain ⟨σ', H', J, q⟩ := hs
        exact ⟨.none, rfl, fin (v := V.non) (u := Value.none) J rfl q⟩
      | brk =>
        obtain ⟨_, _, _, q⟩ := hs
        exact False.elim q
      | cont =>
        obtain ⟨_, _, _, q⟩ := hs
        exact False.elim q
    · exact wpAny_mono hs (fun _ _ z => False.elim z) (fun _ _ z => False.elim z)
end Z

set_option Elab.async false
set_option linter.all false
set_option maxRecDepth 100000
set_option maxHeartbeats 4000000
namespace Z
open PySem PySem.Spec PyProof.Rows L2

/-! # what must be seen of the text -/
def noCall : Expr → Bool
  | .Call _ [] _ _ => false
  | _ => true
theorem attr_ok {e : Expr} {f : Str} {env : Env} {w : Sem Value} (h : noCall e = true) : attributeBase e f env w = w := by
  unfold attributeBase
  cases e <;> try rfl
  rename_i fe args kws pos
  cases args with
  | nil => cases h
  | cons a as => cases fe <;> rfl
def noSet : Expr → Bool
  | .Set _ _ _ => false
  | _ => true
theorem mark_ok {o : CmpOp} {e : Expr} (h : noSet e = true) : behindInMarks o e = false := by
  cases e <;> first | rfl | cases h
theorem fold_ok {e : Expr} {env : Env} (h : noSet e = true) (x : Value) : foldedSetIterable e env x = pure x := by
  cases e <;> first | rfl | cases h
def isComp : Expr → Bool
  | .ListComp _ _ _ _ => true | .SetComp _ _ _ _ => true | .DictComp _ _ _ _ _ => true
  | _ => false
def isName : Expr → Bool
  | .Name _ _ => true
  | _ => false
theorem sw_no {v : Expr} {t : Option Expr} {l : Nat} {env : Env} (h : isComp v = false) : swapsWith v t l env = pure false := by
  cases v <;> first | rfl | cases h
theorem sw_tg {v t : Expr} {l : Nat} {env : Env} (h : isComp v = false ∨ isName t = false) : swapsWith v (some t) l env = pure false := by
  rcases h with h | h
  · exact sw_no h
  · cases v <;> first | rfl | (cases t <;> first | rfl | cases h)
/-- no plain name of the def's own -/
def offLoc (sc : Scope) : Expr → Bool
  | .Name x _ => decide (sc.names.lookup x ≠ some .local)
  | _ => true
theorem sw_off {v t : Expr} {l : Nat} {env : Env} {sc : Scope} (he : env.scope = sc) (h : isComp v = false ∨ offLoc sc t = true) : swapsWith v (some t) l env = pure false := by
  rcases h with h | h
  · exact sw_no h
  · cases t with
    | Name x p =>
      have hn : (env.kindOf x == some NameKind.local) = false := by
        unfold Env.kindOf
        rw [he, beq_eq_false_iff_ne]
        exact of_decide_eq_true h
      have hz : ∀ (a b c : Bool), (a && (env.kindOf x == some NameKind.local) && b && c) = false := fun a b c => by rw [hn]; simp
      cases v <;> first | rfl | (unfold swapsWith; simp only [hz])
    | _ => exact sw_tg (.inr rfl)
theorem sws_off {v t : Expr} {l : Nat} {env : Env} {sc : Scope} (he : env.scope = sc) (h : isComp v = false ∨ offLoc sc t = true) : swapsWithSole [t] v l env = pure false := sw_off he h
theorem sws_tg {v t : Expr} {l : Nat} {env : Env} (h : isComp v = false ∨ isName t = false) : swapsWithSole [t] v l env = pure false := sw_tg h
def bigTup : Expr → Bool
  | .Tuple es _ _ => decide (4 ≤ es.length)
  | _ => false
/-- no stores from the right -/
def noSwap (sc : Scope) (t v : Expr) : Bool := match t, v with
  | .Tuple ts _ _, .Tuple vs _ _ => decide (4 ≤ ts.length) || (vs.all (foldedForSure 8) || ts.any (offLoc sc))
  | .List _ _, _ => false
  | _, _ => true
theorem ss_no {t v : Expr} {env : Env} {sc : Scope} (he : env.scope = sc) (h : noSwap sc t v = true) : swappedStores [t] v env = pure none := by
  unfold swappedStores
  cases t <;> try rfl
  · cases h
  · cases v <;> try rfl
    rename_i ts k pos vs k2 pos2
    have h : (decide (4 ≤ ts.length) || (vs.all (foldedForSure 8) || ts.any (offLoc sc))) = true := h
    simp only
    split
    · rfl
    rename_i hn
    split
    · rfl
    split
    · rfl
    rename_i hl
    rw [Bool.or_eq_true, Bool.or_eq_true] at h
    rcases h with h | h | h
    · exfalso
      have h : 4 ≤ ts.length := by simpa using h
      have a : (ts.length == 2) = false := by rw [beq_eq_false_iff_ne]; omega
      have b : (ts.length == 3) = false := by rw [beq_eq_false_iff_ne]; omega
      rw [a, b] at hn
      exact hn rfl
    · rw [if_pos h]
    · exfalso
      obtain ⟨e, he1, he2⟩ := List.any_eq_true.mp h
      simp only [Bool.or_eq_true, not_or, bne_iff_ne, ne_eq, Decidable.not_not] at hl
      have hlen := hl.1
      have : ∀ {α β : Type} (f : α → Option β) (l : List α) (x : α), x ∈ l → f x = none → (l.filterMap f).length < l.length := by
        intro α β f l x hx hf
        induction l with
        | nil => cases hx
        | cons y l ih =>
          have hle := List.length_filterMap_le f l
          rcases List.mem_cons.mp hx with rfl | hx
          · rw [List.filterMap_cons_none hf, List.length_cons]; omega
          · have := ih hx
            cases hy : f y with
            | none => rw [List.filterMap_cons_none hy, List.length_cons]; omega
            | some z => rw [List.filterMap_cons_some hy, List.length_cons, List.length_cons]; omega
      refine absurd hlen (Nat.ne_of_lt (this _ _ e he1 ?_))
      cases e <;> try rfl
      rename_i x p
      have hx : (env.kindOf x == some NameKind.local) = false := by
        unfold Env.kindOf
        rw [he, beq_eq_false_iff_ne]
        exact of_decide_eq_true he2
      simp [hx]
section
variable {X : Cx} {sc : Scope}
theorem blk_kind {env : Env} (h : env.scope = sc) (k : sc.kind = .function) : env.blockKind = .function := by
  unfold Env.blockKind
  rw [h, k]; rfl
/-- two names, two values, stored from the right -/
def swap2 (sc : Scope) (x y : Str) (px py : Pos) (vs : List Expr) : Bool :=
  decide (sc.names.lookup x = some .local) && (decide (sc.names.lookup y = some .local) && ((py.line == px.line) && (decide (x ≠ y) && (decide (vs.length = 2) && (!(vs.any isStar) && (!(vs.all (foldedForSure 8)) && !(vs.all (constantsAlone 8))))))))
def swap3 (sc : Scope) (x y z : Str) (px py pz : Pos) (vs : List Expr) : Bool :=
  decide (sc.names.lookup x = some .local) && (decide (sc.names.lookup y = some .local) && (decide (sc.names.lookup z = some .local) && ((py.line == px.line) && ((pz.line == px.line) && (decide (x ≠ y ∧ x ≠ z ∧ y ≠ z) && (decide (vs.length = 3) && (!(vs.any isStar) && (!(vs.all (foldedForSure 8)) && !(vs.all (constantsAlone 8))))))))))
theorem ss_two {env : Env} {x y : Str} {px py pt : Pos} {vs : List Expr} {kt k2 : Nat} {pt2 : Pos} (he : env.scope = sc) (k : sc.kind = .function) (h : swap2 sc x y px py vs = true) : swappedStores [.Tuple [.Name x px, .Name y py] kt pt] (.Tuple vs k2 pt2) env = pure (some [x, y]) := by
  unfold swap2 at h
  simp only [Bool.and_eq_true, decide_eq_true_eq, Bool.not_eq_true'] at h
  obtain ⟨h1, h2, h3, h4, h5, h6, h7, h8⟩ := h
  have hb := blk_kind he k
  unfold swappedStores
  have l1 : env.kindOf x = some .local := by unfold Env.kindOf; rw [he]; exact h1
  have l2 : env.kindOf y = some .local := by unfold Env.kindOf; rw [he]; exact h2
  have l3 : (Expr.Name x px).pos.line = px.line := rfl
  have e1 : ([x, y] : List Str).eraseDups.length = 2 := by
    have : (y == x) = false := by simpa using fun z => h4 z.symm
    simp [List.eraseDups_cons, this]
  simp only [h5, hb, h6, h7, h8, List.length_cons, List.length_nil, List.head?_cons, Option.map_some, Option.getD_some, l3, List.filterMap_cons, List.filterMap_nil, l1, l2, h3]
  simp [e1]
  intro e hm hs
  exfalso
  have := List.any_eq_false.mp h6 e hm
  cases e <;> first | exact this rfl | cases hs
theorem ss_three {env : Env} {x y z : Str} {px py pz pt : Pos} {vs : List Expr} {kt k2 : Nat} {pt2 : Pos} (he : env.scope = sc) (k : sc.kind = .function) (h : swap3 sc x y z px py pz vs = true) : swappedStores [.Tuple [.Name x px, .Name y py, .Name z pz] kt pt] (.Tuple vs k2 pt2) env = pure (some [x, y, z]) := by
  unfold swap3 at h
  simp only [Bool.and_eq_true, decide_eq_true_eq, Bool.not_eq_true'] at h
  obtain ⟨h1, h2, h3, h4, h4', h5, h6, h7, h8, h9⟩ := h
  have hb := blk_kind he k
  unfold swappedStores
  have l1 : env.kindOf x = some .local := by unfold Env.kindOf; rw [he]; exact h1
  have l2 : env.kindOf y = some .local := by unfold Env.kindOf; rw [he]; exact h2
  have l4 : env.kindOf z = some .local := by unfold Env.kindOf; rw [he]; exact h3
  have l3 : (Expr.Name x px).pos.line = px.line := rfl
  have e1 : ([x, y, z] : List Str).eraseDups.length = 3 := by
    have a : (y == x) = false := by simpa using fun w => h5.1 w.symm
    have b : (z == x) = false := by simpa using fun w => h5.2.1 w.symm
    have c : (z == y) = false := by simpa using fun w => h5.2.2 w.symm
    simp [List.eraseDups_cons, a, b, c]
  simp only [h6, hb, h7, h8, h9, List.length_cons, List.length_nil, List.head?_cons, Option.map_some, Option.getD_some, l3, List.filterMap_cons, List.filterMap_nil, l1, l2, l4, h4, h4']
  simp [e1]
  intro e hm hs
  exfalso
  have := List.any_eq_false.mp h7 e hm
  cases e <;> first | exact this rfl | cases hs
/-- name = [..] on one line -/
def swapC (sc : Scope) (x : Str) (ps cp : Pos) (scope : Scope) : Bool := decide (sc.names.lookup x = some .local) && ((ps.line == cp.line) && !(scope.names.any fun (n, k) => n == x && (k == .local || k == .cell)))
theorem sw_comp {env : Env} {x : Str} {ps cp : Pos} {scope : Scope} {elt : Expr} {gs : List Comprehension} {l : Nat} (he : env.scope = sc) (k : sc.kind = .function) (h : swapC sc x ps cp scope = true) : swapsWith (.ListComp elt gs scope cp) (some (.Name x ps)) l env = pure true := by
  unfold swapC at h
  simp only [Bool.and_eq_true, decide_eq_true_eq] at h
  obtain ⟨h1, h2, h3⟩ := h
  have hb := blk_kind he k
  have l1 : env.kindOf x = some .local := by unfold Env.kindOf; rw [he]; exact h1
  have l2 : (Expr.ListComp elt gs scope cp).pos.line = cp.line := rfl
  show pure (env.blockKind == .function && env.kindOf x == some .local && ps.line == (Expr.ListComp elt gs scope cp).pos.line && !(scope.names.any fun (n, k) => n == x && (k == .local || k == .cell))) = pure true
  rw [hb, l1, l2, h2, h3]; rfl
/-- o.m(..) at one line -/
theorem meth_ok {o : Expr} {m : Str} {apos pos : Pos} {es : List Expr} {env : Env} (hb : noCall o = true) (hs : (es.all fun e => !isStar e) = true) (hn : es.length < 30) (hl : (apos.endLine == pos.line) = true) :
    eval (.Call (.Attribute o m apos) es [] pos) env = (do
      let ov ← eval o env
      standAt apos.atName
      let (f, first) ← holding [ov] (getMethod ov m (do return (← importBound o env).getD true))
      callWith pos f first (backTo pos (starEach es env)) (backToKw pos (keywordEach [] env))) := by
  rw [arm_eval_Call, attr_ok hb]
  have hform : methodCallForm (es.length + ([] : List Keyword).length) (backTo pos (starEach es env)) (backToKw pos (keywordEach [] env)) = true := few_of hs hn
  have hpos : methodCallPos true o env apos pos = pure pos := by unfold methodCallPos; simp [hl]
  unfold methodCall
  rw [hform]
  congr 1
  funext ov
  congr 1
  funext _
  unfold calleeOf
  simp only [if_true]
  congr 1
  funext r
  obtain ⟨f, first⟩ := r
  show (do let callPos ← methodCallPos true o env apos pos; callWith callPos f first (backTo pos (starEach es env)) (backToKw pos (keywordEach [] env))) = _
  rw [hpos]
  rfl
theorem m1_ok {o e : Expr} {m : Str} {apos cp : Pos} (hb : noCall o = true) (h0 : isStar e = false) (hl : (apos.endLine == cp.line) = true) : M1 X o m apos e cp where
  base := attr_ok hb
  few := few_of (by simp [h0]) (by simp)
  line := hl
  trees := by rw [star_cons h0]; rfl
theorem m2_ok {o e f : Expr} {m : Str} {apos cp : Pos} (hb : noCall o = true) (h0 : isStar e = false) (h1 : isStar f = false) (hl : (apos.endLine == cp.line) = true) : M2 X o m apos e f cp where
  base := attr_ok hb
  few := few_of (by simp [h0, h1]) (by simp)
  line := hl
  trees := by rw [star_cons h0, star_cons h1]; rfl
end
end Z

set_option Elab.async false
set_option linter.all false
set_option maxRecDepth 100000
set_option maxHeartbeats 4000000
namespace Z
open PySem PySem.Spec PyProof.Rows L2
section
variable {p : Pg} {N : List Str} {sc : Scope} {fn : Str → Bool} {k : Nat} {X : Cx} {G : Fns} {ρ : Env'} {S : Store} {pos : Pos}
theorem reps_int {K : PySem.W.Frag} {F : Hp} {ι : List Addr} (f : Nat → Int) : ∀ l : List Nat, Reps K F ι (l.map fun i => V.int (f i)) (l.map fun i => D.int (f i))
  | [] => .nil
  | i :: l => .cons (.int _) (reps_int f l)
theorem fn_lrng {ea eb : Expr} {a b : Ex} {x y : Str} {ps ps2 pos2 : Pos} (g : Good p N sc fn k X) (hx : x = "list") (hy : y = "range") (gx : sc.names.lookup x = some .globalImplicit) (mx : p.mg x = none) (gy : sc.names.lookup y = some .globalImplicit) (my : p.mg y = none) (h0 : isStar ea = false) (h1 : isStar eb = false)
    (ha : FE p X ρ S ea (evE G a ρ S)) (hb : ∀ S, FE p X ρ S eb (evE G b ρ S)) : FN p X ρ S (.Call (.Name x ps) [.Call (.Name y ps2) [ea, eb] [] pos2] [] pos) (evE G (.lrng a b) ρ S) := by
  intro Pr F ι α σ H R d S' e Q q
  rw [evE] at e
  obtain ⟨⟨u, S1⟩, e1, e⟩ := Option.bind_eq_some_iff.mp e
  obtain ⟨⟨v, S2⟩, e2, e⟩ := Option.bind_eq_some_iff.mp e
  obtain ⟨i, e3, e⟩ := Option.bind_eq_some_iff.mp e
  obtain ⟨j, e4, e⟩ := Option.bind_eq_some_iff.mp e
  split at e
  · rename_i hz
    cases e
    simp only [Bool.and_eq_true, decide_eq_true_eq] at hz
    obtain ⟨z1, z2, z3⟩ := hz
    unfold smallI at z1 z2
    simp only [Bool.and_eq_true, decide_eq_true_eq] at z1 z2
    have GX : Gl X x := by show X.env.scope.names.lookup x = _; rw [g.sc]; exact gx
    have MX : X.mg x = none := by rw [← mx, ← g.pg]; rfl
    have GY : Gl X y := by show X.env.scope.names.lookup y = _; rw [g.sc]; exact gy
    have MY : X.mg y = none := by rw [← my, ← g.pg]; rfl
    subst hx hy
    cases intOf_eq e3
    cases intOf_eq e4
    have hpl : ([eb].all fun e => !isStar e) = true := by simp [h1]
    refine wE_of (pe_listRg g.calm GX MX (prg_2 GY MY peW peW (star_cons h0) (star_cons h1) (star_all hpl).1) (star_cons rfl)) ?_
    refine ha Pr F ι α σ H R _ _ e1 _ fun x F1 ι1 H1 R1 l1 m1 r1 => ?_
    refine hb S1 Pr F1 ι1 α σ H1 R1 _ _ e2 _ fun y F2 ι2 H2 R2 l2 m2 r2 => ?_
    cases r1
    cases r2
    refine ⟨i, j, rfl, rfl, ⟨z1.1, z1.2, z2.1, z2.2, by omega⟩, fun c hc => ?_⟩
    obtain ⟨R3, f3⟩ := R2.alloc (d := .lst (rngD i (j - i).toNat)) (o := .lst (rgV i j)) hc fun G g => ⟨_, g, reps_int (fun (k : Nat) => i + (k : Int)) _⟩
    exact q c F2 ι2 _ R3 (l1.trans l2) (m1.trans m2) f3
  · cases e
def cV : Cst → V
  | .non => .non | .bl b => .bl b | .int i => .int i | .str x => .str x
def cstB' (c : Cst) (k : Const) : Bool := match c, k with
  | .non, .none => true | .bl b, .bool b' => decide (b = b') | .int i, .int i' => decide (i = i') | .str x, .str y => decide (x = y)
  | _, _ => false
def ccsB : List (Cst × Cst) → List (Option Expr) → List Expr → Bool
  | [], [], [] => true
  | (a, b) :: r, some (.Constant ka _ _) :: ks, .Constant kb _ _ :: vs => cstB' a ka && (cstB' b kb && ccsB r ks vs)
  | _, _, _ => false
theorem pc_ok {c : Cst} {kc : Const} {j : Nat} (h : cstB' c kc = true) : ∃ t, PE X (.Constant kc j pos) t ∧ ∀ σ H (Q : VK), Q (cV c) H → t σ H Q := by
  cases c <;> cases kc <;> simp [cstB'] at h
  · exact ⟨_, pe_non, fun σ H Q q => q⟩
  · subst h; exact ⟨_, pe_bl, fun σ H Q q => q⟩
  · subst h; exact ⟨_, pe_int, fun σ H Q q => q⟩
  · subst h; exact ⟨_, pe_str, fun σ H Q q => q⟩
theorem pps_ok : ∀ {kvs : List (Cst × Cst)} {ks : List (Option Expr)} {vs : List Expr}, ccsB kvs ks vs = true → ks.length = kvs.length ∧ vs.length = kvs.length ∧ ks.all (·.isSome) = true ∧ ∃ trs, PPs X pos ks vs trs ∧ ∀ σ H (Q : List (V × V) → Hp → Prop), Q (kvs.map fun q => (cV q.1, cV q.2)) H → tPairs trs σ H Q
  | [], [], [], _ => ⟨rfl, rfl, rfl, [], pps_nil, fun _ _ _ q => q⟩
  | (a, b) :: r, some (.Constant ka ja pa) :: ks, .Constant kb jb pb :: vs, h => by
    simp only [ccsB, Bool.and_eq_true] at h
    obtain ⟨t1, p1, q1⟩ := pc_ok (X := X) (j := ja) (pos := pa) h.1
    obtain ⟨t2, p2, q2⟩ := pc_ok (X := X) (j := jb) (pos := pb) h.2.1
    obtain ⟨l1, l2, l3, trs, p3, q3⟩ := pps_ok h.2.2
    refine ⟨by simp [l1], by simp [l2], by simpa using l3, (t1, t2) :: trs, pps_cons p1 p2 p3, fun σ H Q q => ?_⟩
    exact q1 _ _ _ (q2 _ _ _ (q3 _ _ _ q))
theorem dsp_ok {K : PySem.W.Frag} {F : Hp} {ι : List Addr} : ∀ {kvs : List (Cst × Cst)} {es : List (Key × D)}, dsp (kvs.map fun q => q.1.d) (kvs.map fun q => q.2.d) = some es → ∃ m : List (Key × V), (kvs.map fun q => (cV q.1, cV q.2)) = m.map (fun kv => (kV kv.1, kv.2)) ∧ RKV K F ι m es
  | [], es, h => by cases h; exact ⟨[], rfl, rfl, .nil⟩
  | (a, b) :: r, es, h => by
    simp only [List.map_cons, dsp] at h
    split at h
    · rename_i k es' h1 h2
      cases h
      obtain ⟨m, e1, e2⟩ := dsp_ok (K := K) (F := F) (ι := ι) h2
      refine ⟨(k, cV b) :: m, ?_, ?_⟩
      · rw [List.map_cons, List.map_cons, e1]
        congr 2
        cases a <;> simp [Cst.d, keyK] at h1 <;> (subst h1; rfl)
      · refine ⟨by rw [List.map_cons, List.map_cons, e2.1], .cons ?_ e2.2⟩
        cases b
        · exact .non
        · exact .bl _
        · exact .int _
        · exact .str _
    · cases h
theorem rkv_fold {K : PySem.W.Frag} {F : Hp} {ι : List Addr} : ∀ {m : List (Key × V)} {es : List (Key × D)} {m0 : List (Key × V)} {es0 : List (Key × D)}, RKV K F ι m es → RKV K F ι m0 es0 → RKV K F ι (mergeK m0 m) (es.foldl (fun acc e => dput acc e.1 e.2) es0)
  | [], [], _, _, _, h => h
  | [], _ :: _, _, _, h, _ => by have := h.len; simp at this
  | _ :: _, [], _, _, h, _ => by have := h.len; simp at this
  | (k, v) :: m, (k', d) :: es, m0, es0, h, h0 => by
    obtain ⟨h1, h2⟩ := h
    simp only [List.map_cons, List.cons.injEq] at h1
    obtain ⟨rfl, h1⟩ := h1
    simp only [List.map_cons] at h2
    cases h2 with
    | cons hv hr => exact rkv_fold (m := m) (es := es) ⟨h1, hr⟩ (RKV.put k hv h0)
theorem upd_upd {H : Hp} {a : Addr} {o o' : HO} : upd (upd H a o) a o' = upd H a o' := by
  funext x
  by_cases h : x = a
  · subst h; rw [upd_same, upd_same]
  · rw [upd_ne h, upd_ne h, upd_ne h]
theorem fn_dcst {kvs : List (Cst × Cst)} {ks : List (Option Expr)} {vs : List Expr} (h : ccsB kvs ks vs = true) : FN p X ρ S (.Dict ks vs pos) (evE G (.dcst kvs) ρ S) := by
  intro Pr F ι α σ H R d S' e Q q
  rw [evE] at e
  obtain ⟨es, e1, e⟩ := Option.bind_eq_some_iff.mp e
  split at e
  · rename_i hz
    cases e
    obtain ⟨l1, l2, l3, trs, p3, q3⟩ := pps_ok (X := X) (pos := pos) h
    obtain ⟨m, em, rm⟩ := dsp_ok (K := p.K) (F := F) (ι := ι) e1
    have hml : m.length = kvs.length := by have := congrArg List.length em; simpa using this.symm
    have hes : es.length = m.length := rm.len.symm
    have hne : ks ≠ [] := by
      intro z
      rw [z] at l1
      have : es.length = 0 := by rw [hes, hml, ← l1]; rfl
      exact hz.2 (List.length_eq_zero_iff.mp this)
    refine wE_of (pe_disp p3 l3 (by omega) hne (by omega)) fun c hc => q3 _ _ _ ⟨upd_same, m, em, by omega, ?_⟩
    rw [upd_upd]
    have hc2 : (H c) = none := hc
    obtain ⟨R2, f2⟩ := R.alloc (d := .dK (es.foldl (fun acc e => dput acc e.1 e.2) [])) (o := .dK (mergeK [] m)) hc2 fun G g => ⟨_, g, (rkv_fold rm ⟨rfl, .nil⟩).1, (rkv_fold rm ⟨rfl, .nil⟩).2⟩
    exact q c F ι _ R2 (LeH.refl _) (LeA.refl _) f2
  · cases e
end
end Z

set_option Elab.async false
set_option linter.all false
set_option maxRecDepth 100000
set_option maxHeartbeats 4000000
namespace Z
open PySem PySem.Spec PyProof.Rows L2
section
variable {prog : Program} {w : World} {K : Type} [DecidableEq K] {knd : KeyKind prog w K} {A : Around} {E : Value → Shared → Prop} {s : Shared}
theorem put_pairs {d : Addr} {kvs : List (K × Value)} {k : K} {key v : Value} {Q : Unit → Shared → Prop} (hkey : knd.is k key = true) (hm : s.heap.DictOf knd d kvs)
    (hQ : ∀ h', h'.DictOf knd d (stored kvs k v) → Heap.SameBut d s.heap h' → Q () { s with heap := h' })
    (hsz : kvs.length ≤ sizeLine) :
    wpAny (model prog w) A (dictPut d (knd.hash k) key v) Q E s := by
  obtain ⟨o, es, ep, ho, hc, hd, hk, hp, hn⟩ := hm
  have hes : es.size ≤ sizeLine := by have e1 := hp.length; have e2 : es.toList.length = es.size := by simp
                                      omega
  unfold dictPut
  refine wpAny_bind (wpAny_dictFind_of hkey ho hd hk ?_)
  have hidx : (es.findIdx? fun e => knd.is k e.key) = kvs.findIdx? fun kv => decide (kv.1 = k) := by
    rw [← hp.findIdx k]; obtain ⟨l⟩ := es; simp
  cases hi : es.findIdx? fun e => knd.is k e.key with
  | some i =>
    refine wpAny_updateDict ho hd (hQ _ ⟨_, _, ep, Heap.get?_update_self _ ho (Obj.isFreed_of_dict (Obj.data_mapDict hd _)),
      hc.mapDict _, Obj.data_mapDict hd _, hk.modify _ _, ?_, ?_⟩ (Heap.SameBut.update ..))
    · rw [stored, if_pos (any_of_findIdx_some (hidx ▸ hi))]
      have hl : (es.toList.findIdx? fun e => knd.is k e.key) = some i := by rw [← hi]; obtain ⟨l⟩ := es; simp
      have := hp.modify hn hl v
      obtain ⟨l⟩ := es
      simpa using this
    · rw [stored, if_pos (any_of_findIdx_some (hidx ▸ hi)), keys_map_store]; exact hn
  | none =>
    have hnot : k ∉ kvs.map (·.1) := not_mem_of_findIdx_none (hidx ▸ hi)
    have hany : ¬ (kvs.any fun kv => decide (kv.1 = k)) = true := by
      rw [List.any_eq_true]; rintro ⟨kv, hkv, he⟩
      exact hnot (List.mem_map.mpr ⟨kv, hkv, of_decide_eq_true he⟩)
    refine wpAny_updateDictKeys (hz := hes) ho hd (hQ _ ⟨_, _, ep + 1, Heap.get?_update_self _ ho (Obj.isFreed_of_dict (Obj.data_mapDictKeys hd _)),
      hc.mapDictKeys _, Obj.data_mapDictKeys hd _, hk.push hkey _, ?_, ?_⟩ (Heap.SameBut.update ..))
    · rw [stored, if_neg hany]
      have := hp.append hkey (knd.hash k) v
      obtain ⟨l⟩ := es
      simpa using this
    · rw [stored, if_neg hany, List.map_append, List.nodup_append]
      refine ⟨hn, by simp, ?_⟩
      intro a ha b hb
      simp only [List.map_cons, List.map_nil, List.mem_singleton] at hb
      subst hb
      exact fun e => hnot (e ▸ ha)
theorem merge_map {d o : Addr} {kvs more : List (K × Value)} {Q : Unit → Shared → Prop} (hdo : d ≠ o) (hoS : (o == sysModules) = false)
    (hd : s.heap.DictOf knd d kvs) (ho : s.heap.DictOf knd o more) (href : ∀ k (x : Value), knd.is k x = true → ∀ a, x ≠ .ref a)
    (hQ : ∀ h', h'.DictOf knd d (merged kvs more) → h'.DictOf knd o more → Heap.SameBut d s.heap h' → Q () { s with heap := h' })
    (hsz : kvs.length + more.length ≤ sizeLine) :
    wpAny (model prog w) A (mergeMapping d (.ref o) false) Q E s := by
  obtain ⟨od, esd, epd, hod, hcd, hdd, hkd, hpd, hnd⟩ := id hd
  obtain ⟨oo, eso, epo, hoo, hco, hdo', hko, hpo, hno⟩ := id ho
  unfold mergeMapping
  have hlen : more.length = eso.size := by rw [← hpo.length]; simp
  have loop : wpAny (model prog w) A (do
      let l ← dictEntries o
      let epoch ← dictEpoch o
      forIn (List.range l.size) PUnit.unit fun i (_ : PUnit) => (do
          let l' ← dictEntries o
          match l'[i]? with
            | some e => do
              holding [e.key, e.val] (dictPut d e.hash e.key e.val)
              let ep' ← dictEpoch o
              if (ep' != epoch) = true then do
                  (unsupported "dict.changed-during-merge" : Sem PUnit)
                  pure (ForInStep.yield PUnit.unit)
                else pure (ForInStep.yield PUnit.unit)
            | _ => do
              (unsupported "dict.changed-during-merge" : Sem PUnit)
              pure (ForInStep.yield PUnit.unit) : Sem (ForInStep PUnit))
      pure ()) Q E s := by
    refine wpAny_bind (wpAny_dictEntries hoo hdo' ?_)
    refine wpAny_bind (wpAny_dictEpoch hoo hdo' ?_)
    refine wpAny_bind ?_
    rw [List.range_eq_range']
    refine wpAny_forIn_list _
      (fun rest _ s' => ∃ h' i, s' = { s with heap := h' } ∧ rest = List.range' i (eso.size - i) ∧ i ≤ eso.size ∧ h'.DictOf knd d (merged kvs (more.take i)) ∧ h'.get? o = some oo ∧ Heap.SameBut d s.heap h')
      _ ?_ ?_ _ _ ⟨s.heap, 0, rfl, by simp, Nat.zero_le _, by simpa [merged] using hd, hoo, Heap.SameBut.refl _ _⟩
    · rintro x rest b s' ⟨h', i, rfl, hr, hi, hd', hoo', hs'⟩
      have hlt : i < eso.size := by
        rcases Nat.lt_or_ge i eso.size with h | h
        · exact h
        · rw [Nat.sub_eq_zero_of_le h] at hr; simp at hr
      obtain ⟨rfl, hrest⟩ : x = i ∧ rest = List.range' (i + 1) (eso.size - (i + 1)) := by
        have e : eso.size - i = (eso.size - (i + 1)) + 1 := by omega
        rw [e, List.range'_succ] at hr
        injection hr with h1 h2
        exact ⟨h1, h2⟩
      refine wpAny_bind (wpAny_dictEntries hoo' hdo' ?_)
      rw [Array.getElem?_eq_getElem hlt]
      obtain ⟨kv, hkv⟩ : ∃ kv, more[x]? = some kv := ⟨more[x]'(by rw [hlen]; exact hlt), List.getElem?_eq_getElem _⟩
      obtain ⟨k, v⟩ := kv
      obtain ⟨hkey, hval⟩ := hpo.get? (e := eso[x]) (by simp [hlt]) hkv
      obtain ⟨k', hkey', hhash⟩ := hko eso[x] (Array.getElem_mem hlt)
      obtain rfl : k' = k := knd.inj _ _ _ hkey' hkey
      show wpAny _ _ (holding [eso[x].key, eso[x].val] (dictPut d eso[x].hash eso[x].key eso[x].val) >>= _) _ _ _
      rw [hhash, hval]
      have hmx : (merged kvs (more.take x)).length ≤ sizeLine := by
        have e1 := merged_length_le kvs (more.take x)
        have e2 : (more.take x).length ≤ more.length := by rw [List.length_take]; omega
        omega
      refine wpAny_bind (wpAny_holding (put_pairs (hsz := hmx) hkey hd' fun h'' hd'' hs'' => ?_))
      have hoo'' : h''.get? o = some oo := (hs''.2 o (Ne.symm hdo)).trans hoo'
      refine wpAny_bind (wpAny_dictEpoch hoo'' hdo' ?_)
      rw [if_neg (by simp)]
      exact wpAny_pure ⟨h'', x + 1, rfl, hrest, hlt, by rw [merged_take_succ kvs more x (k', v) hkv]; exact hd'', hoo'', hs'.trans hs''⟩
    · rintro b s' ⟨h', i, rfl, hr, hi, hd', hoo', hs'⟩
      have hin : i = eso.size := by
        rcases Nat.lt_or_ge i eso.size with h | h
        · have e : eso.size - i = (eso.size - (i + 1)) + 1 := by omega
          rw [e, List.range'_succ] at hr; exact nomatch hr
        · exact Nat.le_antisymm hi h
      refine wpAny_pure (hQ h' ?_ ⟨oo, eso, epo, hoo', hco, hdo', hko, hpo, hno⟩ hs')
      rw [hin, ← hlen, List.take_length] at hd'; exact hd'
  refine wpAny_bind (wpAny_isInstance ho.typeIs isSubtype_dict_dict ?_)
  simp only [if_true]
  refine wpAny_bind (wpAny_specialOf ho.typeIs F.slot_dict_iter.lookup ?_)
  simp only [beq_self_eq_true]
  refine wpAny_bind (wpAny_pure ?_)
  dsimp only
  rw [if_neg (by rw [hoS]; exact Bool.false_ne_true)]
  refine wpAny_bind (wpAny_dictEntries hod hdd ?_)
  split
  · refine wpAny_bind (wpAny_dictEntries hoo hdo' ?_)
    refine wpAny_bind ?_
    rw [← Array.forIn_toList]
    refine wpAny_forIn_list _ (fun rest _ s' => s' = s ∧ ∀ e ∈ rest, e ∈ eso) _ ?_ ?_ _ _ ⟨rfl, fun e he => by simpa using he⟩
    · rintro x rest b s' ⟨rfl, hr⟩
      obtain ⟨k', hkey', _⟩ := hko x (hr x List.mem_cons_self)
      have nr := href _ _ hkey'
      split
      · rename_i a ha; exact absurd ha (nr a)
      · exact wpAny_pure ⟨rfl, fun e he => hr e (List.mem_cons_of_mem _ he)⟩
    · rintro b s' ⟨rfl, _⟩
      exact loop
  · exact loop
end
/-! ## {**a, **b} -/
section
variable {M : Model} {A : Around} {E : Value → Shared → Prop} {s : Shared}
theorem calmly {α : Type} {m : Sem α} {Q : α → Shared → Prop} {k1 k3 : Value → Sem Unit} {k2 : Value → Sem α} (h : wpAny M A m Q (fun _ _ => False) s) : wpAny M A (((m.onRaise k1).tryCatch k2).onRaise k3) Q E s :=
  wpAny_onRaise (wpAny_tryCatch (wpAny_onRaise (wpAny_mono h (fun _ _ x => x) fun _ _ x => x.elim)))
theorem disp2 {ma mb : Sem Value} {Q : Value → Shared → Prop} (h : wpAny M A ma (fun m s1 => wpAny M A (mergeMapping s.heap.objs.size m false) (fun _ s2 => wpAny M A mb (fun m' s3 => wpAny M A (mergeMapping s.heap.objs.size m' false) (fun _ s4 => Q (.ref s.heap.objs.size) s4) (fun _ _ => False) s3) E s2) (fun _ _ => False) s1) E { s with heap := s.heap.push { cls := .type "dict", data := .dict #[] } }) :
    wpAny M A (dictDisplay [(none, ma), (none, mb)]) Q E s := by
  unfold dictDisplay
  simp only [List.forIn_cons, List.forIn_nil, List.isEmpty_nil, if_true, pure_bind, bind_assoc]
  refine wpAny_bind (wpAny_alloc ?_)
  refine wpAny_bind (wpAny_holding (wpAny_mono h (fun m s1 h1 => ?_) fun _ _ x => x))
  refine wpAny_bind (calmly (wpAny_holding (wpAny_mono h1 (fun _ s2 h2 => ?_) fun _ _ x => x)))
  refine wpAny_bind (wpAny_holding (wpAny_mono h2 (fun m' s3 h3 => ?_) fun _ _ x => x))
  refine wpAny_bind (calmly (wpAny_holding (wpAny_mono h3 (fun _ s4 h4 => ?_) fun _ _ x => x)))
  exact wpAny_pure h4
end
section
variable {p : Pg} {N : List Str} {sc : Scope} {fn : Str → Bool} {k : Nat} {X : Cx} {G : Fns} {ρ : Env'} {S : Store} {ea eb : Expr} {pos : Pos} {a b : Ex}
theorem kV_noref {P : Program} {w : World} (k : Key) (x : Value) (h : (mixKind P w).is k x = true) (a : Addr) : x ≠ .ref a := fun e => by
  subst e
  rcases keyIs_shape (show keyIs k (.ref a) = true from h) with ⟨i, t, e1, e2⟩ | ⟨i, t, e1, e2⟩ <;> cases e2
theorem mm_dict {pins : List (Addr × Obj)} {σ : L2.St} {H : Hp} {s : Shared} {d o : Addr} {acc kvs : List (Key × V)} {Q : Unit → Shared → Prop} {E : Value → Shared → Prop} (I : Inv X pins σ H s) (hD : H d = some (.dK acc)) (hO : Rd H o (.dK kvs)) (hdo : d ≠ o) (hl : acc.length + kvs.length ≤ sizeLine)
    (h : ∀ s', Inv X pins σ (upd H d (.dK (mergeK acc kvs))) s' → Q () s') : wpAny (model X.prog X.w) X.A (mergeMapping d (.ref o) false) Q E s := by
  obtain ⟨z1, n1, vs, r1, d1⟩ := dk_of I.hok hD
  obtain ⟨z2, n2, ws, r2, d2⟩ := dk_rd I.hok hO
  refine merge_map hdo n2 d1 d2 (fun k x hk => kV_noref k x hk) (fun h' m1 m2 hs => h _ ?_) (by rw [← r1.length, ← r2.length]; exact hl)
  have he : ∃ q, h'.get? d = some q := let ⟨q, _, _, hq, _⟩ := m1; ⟨q, hq⟩
  have hlen := length_mergeK kvs acc
  exact d_write (t' := s.toks) I (by rw [hD]; exact True.intro) hs he (dk_new (by omega) n1 (KV.merge r2 r1) m1)
theorem rkv_merge {K : PySem.W.Frag} {F : Hp} {ι : List Addr} : ∀ {more : List (Key × V)} {fs : List (Key × D)} {acc : List (Key × V)} {es : List (Key × D)}, RKV K F ι more fs → RKV K F ι acc es → RKV K F ι (mergeK acc more) (fs.foldl (fun acc e => dput acc e.1 e.2) es) := by
  intro more
  induction more with
  | nil =>
    intro fs acc es r q
    rcases r.elim with ⟨_, rfl⟩ | ⟨_, _, _, _, _, h, _⟩
    · exact q
    · cases h
  | cons kv more ih =>
    intro fs acc es r q
    rcases r.elim with ⟨h, _⟩ | ⟨k', v, d, kvs', es', h, rfl, a, b⟩
    · cases h
    · cases h
      simp only [List.foldl_cons]
      exact ih (acc := putK acc k' v) (es := dput es k' d) b (RKV.put k' a q)
theorem mrg_at {v : Value} (hp : X.pg p.cls p.con p.T = p) {F H : Hp} {ι : List Addr} {σ : L2.St} {pins : List (Addr × Obj)} {s : Shared} {x : V} {fs : List (Key × D)} (cv : CV p F ι H x (.dK fs)) (rx : RelV x v) : ∃ o kvs, x = .ref o ∧ v = .ref o ∧ Rd H o (.dK kvs) ∧ RKV p.K F ι kvs fs := by
  obtain ⟨o, kvs, rfl, q1, q2, q3⟩ := cv
  exact ⟨o, kvs, rfl, rx, q1, q2, q3⟩
theorem mrgD_eq {u v d : D} (e : mrgD u v = some d) : ∃ es fs, u = .dK es ∧ v = .dK fs ∧ es.length + fs.length ≤ sizeLine ∧ d = .dK (fs.foldl (fun acc e => dput acc e.1 e.2) (es.foldl (fun acc e => dput acc e.1 e.2) [])) := by
  cases u <;> try cases e
  cases v <;> try cases e
  rename_i es fs
  have e : (if es.length + fs.length ≤ sizeLine then some (D.dK (fs.foldl (fun acc e => dput acc e.1 e.2) (es.foldl (fun acc e => dput acc e.1 e.2) []))) else none) = some d := e
  split at e
  · rename_i hz
    cases e
    exact ⟨es, fs, rfl, rfl, hz, rfl⟩
  · cases e
theorem apart {F : Hp} {ι : List Addr} {α : Nat → Addr} {D0 o : Addr} {w : Hd} {es : List (Key × D)} (r : HRep p F ι α (.ref o) w) (c : cont ρ S w = some (.dK es)) (h2 : F D0 = none) (h3 : D0 ∉ ι) (h4 : ∀ j e, ρ[j]? = some (.own e) → α j ≠ D0) : D0 ≠ o := fun z => by
  subst z
  cases w with
  | slot i =>
    simp only [cont] at c
    split at c
    · rename_i u hu
      have r : (V.ref D0) = .ref (α i) := r
      injection r with r
      exact h4 _ _ hu r.symm
    · cases c
  | val d =>
    have r : Rep p.K F ι (.ref D0) d := r
    cases r with
    | lst a _ => rw [h2] at a; cases a
    | tup a _ => rw [h2] at a; cases a
    | dK a _ _ => rw [h2] at a; cases a
    | dT a _ _ => rw [h2] at a; cases a
    | ref hn => exact h3 (List.mem_of_getElem? hn)
    | ctup a _ => rcases a with a | ⟨_, a⟩ <;> (rw [h2] at a; cases a)
theorem fn_dmrg (g : Good p N sc fn k X) (ha : ∀ S, FH p X ρ S ea (hOf a ρ S (evE G a ρ S))) (hb : ∀ S, FH p X ρ S eb (hOf b ρ S (evE G b ρ S))) :
    FN p X ρ S (.Dict [none, none] [ea, eb] pos) (evE G (.dmrg a b) ρ S) := by
  intro Pr F ι α σ H R d S' e Q q pins s I
  rw [evE] at e
  obtain ⟨⟨w, S1⟩, e1, e⟩ := Option.bind_eq_some_iff.mp e
  obtain ⟨u, e2, e⟩ := Option.bind_eq_some_iff.mp e
  obtain ⟨⟨w2, S2⟩, e3, e⟩ := Option.bind_eq_some_iff.mp e
  obtain ⟨v, e4, e⟩ := Option.bind_eq_some_iff.mp e
  obtain ⟨d', e5, e6⟩ := Option.map_eq_some_iff.mp e
  obtain ⟨es, fs, rfl, rfl, hz, rfl⟩ := mrgD_eq e5
  cases e6
  rw [arm_eval_Dict]
  refine wpAny_bind (wpAny_standAt ?_)
  generalize hd : s.heap.objs.size = D0
  have I1 : Inv X pins σ (upd H D0 (.dK [])) { s with heap := s.heap.push { cls := .type "dict", data := .dict #[] } } := by
    subst hd
    exact I.laid (a := s.heap.objs.size) (o := .dK []) (t' := s.toks) (fun _ _ q => Heap.get?_push_of_some _ q) (Nat.le_refl _) (dk_empty s.heap I.big)
  have hD : H D0 = none := by subst hd; exact I.hok.fresh (Nat.le_refl _)
  obtain ⟨Ra, fa⟩ := R.alloc (d := .dK []) (o := .dK []) hD fun G g => ⟨[], g, rfl, .nil⟩
  have Rb := Ra.guard (a := D0) (o := .dK []) upd_same (.inl fa.nf) (fun n c h _ => absurd (List.mem_of_getElem? h) fa.ni) fa.no
  have wa := ha S _ F ι α σ _ Rb w S1 e1 (fun x H' => ∃ F' ι', Rel p (upd Pr D0 (.dK [])) ρ S1 F' ι' α σ H' ∧ LeH F F' ∧ LeA ι ι' ∧ HRep p F' ι' α x w) fun x F' ι' H' R' l m r => ⟨F', ι', R', l, m, r⟩
  show wpAny _ _ (dictDisplay [(none, _), (none, _)]) _ _ _
  refine disp2 ?_
  rw [hd]
  refine wpAny_bind (thn (wa pins _ I1) fun m s1 hx => ?_)
  obtain ⟨x, H1, I2, rx, F1, ι1, R1, l1, m1, r1⟩ := hx
  refine wpAny_bind (wpAny_standAt (wpAny_pure ?_))
  obtain ⟨o, kvs, rfl, rfl, q1, q2⟩ := mrg_at (p := p) (s := s) (σ := σ) (pins := pins) g.pg (cv_of R1 r1 e2) rx
  obtain ⟨a1, a2, a3, a4⟩ := R1.aloneK
  have no : D0 ≠ o := apart r1 e2 a2 a3 a4
  have hl1 := q2.len
  refine mm_dict I2 a1 q1 no (by simp only [List.length_nil]; omega) fun s2 I3 => ?_
  have R2 := R1.reguardK (ws := mergeK [] kvs)
  have wb := hb S1 _ F1 ι1 α σ _ R2 w2 S2 e3 (fun x H' => ∃ F' ι', Rel p (upd Pr D0 (.dK (mergeK [] kvs))) ρ S2 F' ι' α σ H' ∧ LeH F1 F' ∧ LeA ι1 ι' ∧ HRep p F' ι' α x w2) fun x F' ι' H' R' l m r => ⟨F', ι', R', l, m, r⟩
  refine wpAny_bind (thn (wb pins s2 I3) fun m s3 hx => ?_)
  obtain ⟨y, H3, I4, ry, F3, ι3, R3, l3, m3, r3⟩ := hx
  refine wpAny_bind (wpAny_standAt (wpAny_pure ?_))
  obtain ⟨o2, kvs2, rfl, rfl, t1, t2⟩ := mrg_at (p := p) (s := s) (σ := σ) (pins := pins) g.pg (cv_of R3 r3 e4) ry
  obtain ⟨b1, b2, b3, b4⟩ := R3.aloneK
  have no2 : D0 ≠ o2 := apart r3 e4 b2 b3 b4
  have hl2 := t2.len
  have hl3 := length_mergeK kvs []
  simp only [List.length_nil] at hl3
  refine mm_dict I4 b1 t1 no2 (by omega) fun s4 I5 => ?_
  have R4 := R3.reguardK (ws := mergeK (mergeK [] kvs) kvs2)
  have prD : Pr D0 = none := fa.np
  obtain ⟨c1, c2, c3, c4⟩ := R4.aloneK
  have R5 := R4.weak (Pr := Pr) fun b o z => by
    rw [upd_ne fun y => by rw [y, prD] at z; cases z]; exact z
  have rk : RKV p.K F3 ι3 (mergeK (mergeK [] kvs) kvs2) (fs.foldl (fun acc e => dput acc e.1 e.2) (es.foldl (fun acc e => dput acc e.1 e.2) [])) := rkv_merge t2 (rkv_merge (q2.le l3 m3) .nil)
  exact ⟨.ref D0, _, I5, rfl, q D0 F3 ι3 _ R5 (l1.trans l3) (m1.trans m3) ⟨⟨_, c1, rk.1, rk.2⟩, c2, c3, prD, c4⟩⟩
end
end Z

set_option Elab.async false
set_option linter.all false
set_option maxRecDepth 100000
set_option maxHeartbeats 4000000
namespace Z
open PySem PySem.Spec PyProof.Rows L2
/-! # sorted(d.items()): pairs whose firsts differ -/
section
variable {prog : Program} {w : World} {A : Around} {E : Value → Shared → Prop} {s : Shared}
/-- pairs at addresses, their firsts' data -/
structure Firsts (h : Heap) (as : List Addr) (ks : List PyData) : Prop where
  len : as.length = ks.length
  at_ : ∀ (j : Nat) (a : Addr) (k : PyData), as[j]? = some a → ks[j]? = some k → ∃ kv vv bs, h.get? a = some { cls := .type "tuple", data := .seq #[kv, vv] } ∧ Reads h kv k bs
noncomputable def pairKind (as : List Addr) (ks : List PyData) : PyProof.Rows.KeyKind where
  toKeyOrd := listOrd PyProof.Rows.itemOrd
  keyOf v := open Classical in if q : ∃ (j : Nat) (a : Addr) (k : PyData), as[j]? = some a ∧ v = .ref a ∧ ks[j]? = some k then some (PySem.W.keyToks q.choose_spec.choose_spec.choose) else none
  dflt := ([] : List (Int ⊕ List Nat))
theorem pairKind_at {as : List Addr} {ks : List PyData} (nd : as.Nodup) {j : Nat} {a : Addr} {k : PyData} (h1 : as[j]? = some a) (h2 : ks[j]? = some k) : (pairKind as ks).keyOf (.ref a) = some (PySem.W.keyToks k) := by
  have q : ∃ (j : Nat) (a' : Addr) (k : PyData), as[j]? = some a' ∧ Value.ref a = .ref a' ∧ ks[j]? = some k := ⟨j, a, k, h1, rfl, h2⟩
  have e : (pairKind as ks).keyOf (.ref a) = some (PySem.W.keyToks q.choose_spec.choose_spec.choose) := by
    show (open Classical in if q : ∃ (j : Nat) (a' : Addr) (k : PyData), as[j]? = some a' ∧ Value.ref a = .ref a' ∧ ks[j]? = some k then some (PySem.W.keyToks q.choose_spec.choose_spec.choose) else none) = _
    rw [dif_pos q]
  obtain ⟨t1, t2, t3⟩ := q.choose_spec.choose_spec.choose_spec
  have e2 : q.choose_spec.choose = a := by injection t2 with t2; exact t2.symm
  rw [e2] at t1
  obtain ⟨l1, g1⟩ := List.getElem?_eq_some_iff.mp t1
  obtain ⟨l2, g2⟩ := List.getElem?_eq_some_iff.mp h1
  have e3 : q.choose = j := (List.getElem_inj nd).mp (g1.trans g2.symm)
  have t4 : ks[q.choose]? = some k := by rw [e3]; exact h2
  rw [e, Option.some.inj (t3.symm.trans t4)]
theorem pairKind_inv {as : List Addr} {ks : List PyData} {v : Value} {x : List (Int ⊕ List Nat)} (e : (pairKind as ks).keyOf v = some x) : ∃ (j : Nat) (a : Addr) (k : PyData), as[j]? = some a ∧ v = .ref a ∧ ks[j]? = some k ∧ x = PySem.W.keyToks k := by
  by_cases q : ∃ (j : Nat) (a : Addr) (k : PyData), as[j]? = some a ∧ v = .ref a ∧ ks[j]? = some k
  · have e' : (pairKind as ks).keyOf v = some (PySem.W.keyToks q.choose_spec.choose_spec.choose) := by
      show (open Classical in if q : ∃ (j : Nat) (a' : Addr) (k : PyData), as[j]? = some a' ∧ v = .ref a' ∧ ks[j]? = some k then some (PySem.W.keyToks q.choose_spec.choose_spec.choose) else none) = _
      rw [dif_pos q]
    obtain ⟨t1, t2, t3⟩ := q.choose_spec.choose_spec.choose_spec
    rw [e'] at e
    exact ⟨_, _, _, t1, t2, t3, (Option.some.inj e).symm⟩
  · have e' : (pairKind as ks).keyOf v = none := by
      show (open Classical in if q : ∃ (j : Nat) (a' : Addr) (k : PyData), as[j]? = some a' ∧ v = .ref a' ∧ ks[j]? = some k then some (PySem.W.keyToks q.choose_spec.choose_spec.choose) else none) = _
      rw [dif_neg q]; rfl
    rw [e'] at e
    cases e
theorem firsts_tups {h : Heap} : ∀ {as : List Addr} {ks : List PyData}, Firsts h as ks → ∃ fs, PySem.W.KatTups h (as.map .ref) fs ∧ fs.length = as.length ∧ ∀ f ∈ fs, ∃ k ∈ ks, ∃ bs, Reads h f k bs
  | [], _, _ => ⟨[], .nil, rfl, fun f hf => by simp at hf⟩
  | a :: as, [], F => by cases F.len
  | a :: as, k :: ks, F => by
    obtain ⟨kv, vv, bs, h1, h2⟩ := F.at_ 0 a k rfl rfl
    obtain ⟨fs, t1, t2, t3⟩ := firsts_tups (h := h) (as := as) (ks := ks) ⟨Nat.succ.inj F.len, fun j a k q1 q2 => F.at_ (j + 1) a k q1 q2⟩
    refine ⟨kv :: fs, .cons h1 rfl rfl rfl t1, by simp [t2], fun f hf => ?_⟩
    rcases List.mem_cons.mp hf with rfl | hf
    · exact ⟨k, List.mem_cons_self, bs, h2⟩
    · obtain ⟨k', m, b⟩ := t3 f hf
      exact ⟨k', List.mem_cons_of_mem _ m, b⟩
theorem sortsAt_pairs {as : List Addr} {ks : List PyData} (F : Firsts s.heap as ks) (nd : as.Nodup) (hal : PySem.W.AllAlike ks) (hdf : ∀ (i j : Nat) (x y : PyData), ks[i]? = some x → ks[j]? = some y → i ≠ j → PyData.eqv x y = false) (hu : ∀ k ∈ ks, A.units + k.depth < cLine) :
    PySem.W.SortsAt prog w A s (pairKind as ks) (as.map .ref) := by
  refine ⟨fun v hv => ?_, ?_⟩
  · obtain ⟨a, ha, rfl⟩ := List.mem_map.mp hv
    obtain ⟨j, hj⟩ := List.getElem?_of_mem ha
    have hl : j < ks.length := by rw [← F.len]; exact (List.getElem?_eq_some_iff.mp hj).1
    exact ⟨_, pairKind_at nd hj (List.getElem?_eq_getElem hl)⟩
  · cases ks with
    | nil =>
      have : as = [] := List.length_eq_zero_iff.mp F.len
      subst this
      exact ⟨general', fun E x y a b Q ha _ _ => (by
        obtain ⟨j, a, k, h1, _⟩ := pairKind_inv ha
        simp at h1), fun h2 => absurd h2 (by simp)⟩
    | cons k₀ ks₀ =>
      have ty : ∀ k ∈ k₀ :: ks₀, PySem.W.dataType k = PySem.W.dataType k₀ := fun k hk => PySem.W.dataType_alike (hal k hk k₀ List.mem_cons_self)
      refine ⟨tuples' (PySem.W.dataType k₀ != Value.type "tuple"), ?_, fun h2 E Q hq => ?_⟩
      · intro E x y a b Q ha hb hq
        obtain ⟨i, a1, k1, e1, rfl, e2, rfl⟩ := pairKind_inv ha
        obtain ⟨j, a2, k2, f1, rfl, f2, rfl⟩ := pairKind_inv hb
        obtain ⟨kv, vv, bs, o1, r1⟩ := F.at_ i a1 k1 e1 e2
        obtain ⟨kv', vv', bs', o2, r2⟩ := F.at_ j a2 k2 f1 f2
        have m1 := List.mem_of_getElem? e2
        have m2 := List.mem_of_getElem? f2
        by_cases hij : i = j
        · subst hij
          rw [e1] at f1; cases f1
          rw [e2] at f2; cases f2
          rw [o1] at o2; cases o2
          have hq : Q false s := by
            have : (pairKind as (k₀ :: ks₀)).blt (PySem.W.keyToks k1) (PySem.W.keyToks k1) = false := (pairKind as (k₀ :: ks₀)).irrefl _
            rw [this] at hq; exact hq
          refine PySem.W.kat_lt o1 rfl o1 rfl ?_
          have e0 : decide ((#[kv, vv] : Array Value).size < (#[kv, vv] : Array Value).size) = false := by simp
          rw [e0]
          show PySem.W.KatLex prog w A _ false Q [(kv, kv), (vv, vv)] 0 s
          exact PySem.W.kat_cons (SeqAt.EqAt.same kv prog w _ _ (PySem.W.kat_yes (PySem.W.kat_cons (SeqAt.EqAt.same vv prog w _ _ (PySem.W.kat_yes (PySem.W.kat_nil hq))))))
        · have hd := hdf i j k1 k2 e2 f2 hij
          have hl := hal k1 m1 k2 m2
          have room : A.units + min k1.depth k2.depth < cLine := Nat.lt_of_le_of_lt (Nat.add_le_add_left (Nat.min_le_left _ _) _) (hu k1 m1)
          refine PySem.W.kat_lt o1 rfl o2 rfl ?_
          show PySem.W.KatLex prog w A _ _ Q [(kv, kv'), (vv, vv')] 0 s
          refine PySem.W.kat_cons (PySem.W.eqAt_alike k1 k2 A s _ _ _ _ r1 r2 hl room prog w _ _ ?_)
          rw [hd]
          refine PySem.W.kat_no (PySem.W.oneLt_alike (fun hbi t => ?_) r1 r2 hl (PySem.W.ne_none_of hl hd) room hq)
          rw [Bool.and_eq_true] at hbi
          have := hbi.1
          rw [← ty k1 m1] at this
          exact PySem.W.dataType_tuple this t
      · obtain ⟨fs, t1, t2, t3⟩ := firsts_tups F
        rw [List.length_map] at h2
        refine PySem.W.kat_kind (T := PySem.W.dataType k₀) t1 (by omega) (fun f hf => ?_) (beq_self_eq_true _) hq
        obtain ⟨k, m, bs, r⟩ := t3 f hf
        rw [← ty k m]
        exact PySem.W.looks_reads r
/-- the order of the pairs -/
theorem sortVals_pairs {as : List Addr} {ks : List PyData} (hl : as.length = ks.length) (nd : as.Nodup) :
    PySem.W.sortVals (pairKind as ks) false (as.map .ref) (as.map .ref) = ((as.zip ks).mergeSort fun a b => !PySem.W.dataLt b.2 a.2).map fun p => Value.ref p.1 := by
  unfold PySem.W.sortVals
  have e1 : (as.map Value.ref).zip (as.map Value.ref) = (as.zip ks).map fun p => (Value.ref p.1, Value.ref p.1) := by
    clear nd
    induction as generalizing ks with
    | nil => rfl
    | cons a as ih =>
      cases ks with
      | nil => cases hl
      | cons k ks => simp only [List.map_cons, List.zip_cons_cons]; rw [ih (Nat.succ.inj hl)]
  rw [e1, ← PySem.W.sort_maps (r := fun a b : Addr × PyData => !PySem.W.dataLt b.2 a.2) (fun p : Addr × PyData => (Value.ref p.1, Value.ref p.1)), List.map_map]
  · rfl
  · intro a ha b hb
    have at_ : ∀ p ∈ as.zip ks, PySem.W.keyD (pairKind as ks) (.ref p.1) = PySem.W.keyToks p.2 := fun p hp => by
      obtain ⟨j, hj⟩ := List.getElem?_of_mem hp
      obtain ⟨h1, h2⟩ := List.getElem?_zip_eq_some.mp hj
      exact PySem.W.keyD_some (pairKind_at nd h1 h2)
    show (!PySem.W.dataLt b.2 a.2) = (!(pairKind as ks).blt (PySem.W.keyD (pairKind as ks) (.ref b.1)) (PySem.W.keyD (pairKind as ks) (.ref a.1)))
    rw [at_ a ha, at_ b hb]
    rfl
end
/-- pairs tracked at their addresses -/
def putV : Hp → List Addr → List (V × V) → Hp
  | H, a :: as, p :: its => putV (upd H a (.tup [p.1, p.2])) as its
  | H, _, _ => H
theorem putV_off {b : Addr} : ∀ (as : List Addr) (its : List (V × V)) (H : Hp), b ∉ as → putV H as its b = H b
  | [], _, _, _ => rfl
  | _ :: _, [], _, _ => rfl
  | a :: as, p :: its, H, h => by
    show putV (upd H a (.tup [p.1, p.2])) as its b = H b
    rw [putV_off as its _ (fun z => h (List.mem_cons_of_mem _ z)), upd_ne (fun z => h (by rw [z]; exact List.mem_cons_self))]
theorem putV_at : ∀ (as : List Addr) (its : List (V × V)) (H : Hp), as.Nodup → ∀ (j : Nat) (a : Addr) (p : V × V), as[j]? = some a → its[j]? = some p → putV H as its a = some (.tup [p.1, p.2])
  | a :: as, p :: its, H, hn, 0, b, q, h1, h2 => by
    simp at h1 h2
    subst h1 h2
    have hn' := List.nodup_cons.mp hn
    show putV (upd H a (.tup [p.1, p.2])) as its a = _
    rw [putV_off as its _ hn'.1, upd_same]
  | a :: as, p :: its, H, hn, j + 1, b, q, h1, h2 => putV_at as its _ (List.nodup_cons.mp hn).2 j b q (by simpa using h1) (by simpa using h2)
  | [], _, _, _, j, b, q, h1, _ => by simp at h1
  | a :: as, [], _, _, j, b, q, _, h2 => by simp at h2
section
variable {p : Pg} {N : List Str} {sc : Scope} {fn : Str → Bool} {k : Nat} {X : Cx} {G : Fns} {ρ : Env'} {S : Store} {ea eb : Expr} {pos : Pos} {a b : Ex}
theorem okDist_of {ks : List D} (h : okDist ks = true) : okAll ks = true ∧ ks.length ≤ sizeLine ∧ nodupD ks = true := by
  unfold okDist at h
  simp only [Bool.and_eq_true, decide_eq_true_eq] at h
  exact ⟨h.1, h.2.1, h.2.2.1⟩
theorem nodupD_at : ∀ {ks : List D}, nodupD ks = true → (∀ x ∈ ks, ∀ y ∈ ks, eqD x y = eqD y x) → ∀ (i j : Nat) (x y : D), ks[i]? = some x → ks[j]? = some y → i ≠ j → eqD x y = false
  | [], _, _, i, j, x, y, h1, _, _ => by simp at h1
  | z :: ks, h, sm, i, j, x, y, h1, h2, hij => by
    simp only [nodupD, Bool.and_eq_true, List.all_eq_true, Bool.not_eq_true'] at h
    cases i with
    | zero =>
      simp at h1; subst h1
      cases j with
      | zero => exact absurd rfl hij
      | succ j => exact h.1 y (List.mem_of_getElem? (by simpa using h2))
    | succ i =>
      cases j with
      | zero =>
        simp at h2; subst h2
        rw [sm x (List.mem_cons_of_mem _ (List.mem_of_getElem? (by simpa using h1))) z List.mem_cons_self]
        exact h.1 x (List.mem_of_getElem? (by simpa using h1))
      | succ j => exact nodupD_at h.2 (fun x hx y hy => sm x (List.mem_cons_of_mem _ hx) y (List.mem_cons_of_mem _ hy)) i j x y (by simpa using h1) (by simpa using h2) (by omega)
theorem sit_core {Pr F H : Hp} {ι : List Addr} {α : Nat → Addr} {σ : L2.St} {pins : List (Addr × Obj)} {s : Shared} {r d : Addr} {es : Array DictEntry} {ep : Nat} {its : List (V × V)} {ds : List (D × D)} {Q : VK}
    (g : Good p N sc fn k X) (R : Rel p Pr ρ S F ι α σ H) (I : Inv X pins σ H s) (hv : s.heap.IsItemsView r d) (hm : s.heap.DictRaw d es ep) (hn : es.size ≤ sizeLine)
    (hpl : its.length = es.size) (hpv : ∀ (j : Nat) (hj : j < es.size) (q : V × V), its[j]? = some q → RelV q.1 es[j].key ∧ RelV q.2 es[j].val)
    (r1 : Reps p.K F ι (its.map (·.1)) (ds.map (·.1))) (r2 : Reps p.K F ι (its.map (·.2)) (ds.map (·.2))) (ok : okDist (ds.map (·.1)) = true)
    (q : ∀ c F' H', Rel p Pr ρ S F' ι α σ H' → LeH F F' → Fr p Pr ρ F' ι α H' c (.lst ((ds.mergeSort fun a b => leD a.1 b.1).map fun e => .tup [e.1, e.2])) → Q (.ref c) H') :
    wpAny (model X.prog X.w) X.A (call (.builtin "sorted") [.ref r]) (EP X pins σ Q) X.xe s := by
  have hK : X.K = p.K := g.K
  have hdl : its.length = ds.length := by have := r1.length; simpa using this
  obtain ⟨okA, _, ndk⟩ := okDist_of ok
  obtain ⟨al, pn, dp⟩ := alikeAll_of okA
  have hs : ∀ (i j : Nat) (x y : PyData), (pys (ds.map (·.1)))[i]? = some x → (pys (ds.map (·.1)))[j]? = some y → i ≠ j → PyData.eqv x y = false := fun i j x y h1 h2 hij => by
    rw [pys_map, List.getElem?_map] at h1 h2
    obtain ⟨x', g1, rfl⟩ := Option.map_eq_some_iff.mp h1
    obtain ⟨y', g2, rfl⟩ := Option.map_eq_some_iff.mp h2
    exact nodupD_at ndk (fun x _ y _ => PySem.W.eqv_comm _ _) i j x' y' g1 g2 hij
  refine PySem.Calls.call_function_entry kind_sorted plain_sorted entry_sorted (args_sorted1 _) ?_
  unfold Builtin.«sorted»
  refine wpAny_bind (m := checkCount "sorted" 1 1 _) (wpAny_pure ?_)
  refine wpAny_bind (PySem.W.dil_collect (A := X.A.in1) (I.ok.hd g.calm) hv hm hn fun h' tk as hk hl hG => ?_)
  have nd : as.Nodup := hG.rise.imp fun h => Nat.ne_of_lt h
  have hal : as.length = ds.length := by omega
  refine wpAny_bind (wpAny_newList ?_ (by rw [List.length_map]; omega))
  have I' : Inv X pins σ H { s with heap := h', toks := tk } := I.kept hk
  have newB : H h'.objs.size = none := I'.hok.fresh (Nat.le_refl _)
  have newA : ∀ a ∈ as, H a = none := fun a ha => I.hok.fresh (Nat.le_of_lt (hG.above a ha))
  have ltA : ∀ a ∈ as, a < h'.objs.size := fun a ha => hG.there ha
  have hBA : h'.objs.size ∉ as := fun z => Nat.lt_irrefl _ (ltA _ z)
  have objs : ∀ (j : Nat) (a : Addr) (q : V × V), as[j]? = some a → its[j]? = some q → ∃ kv vv, h'.get? a = some { cls := .type "tuple", data := .seq #[kv, vv] } ∧ RelV q.1 kv ∧ RelV q.2 vv := fun j a q h1 h2 => by
    obtain ⟨hj, e⟩ := hG.pairs j a h1
    exact ⟨_, _, e, (hpv j hj q h2).1, (hpv j hj q h2).2⟩
  generalize hB : h'.objs.size = B at newB hBA
  have oB : (h'.push { cls := .type "list", data := .seq (as.map Value.ref).toArray }).get? B = some (seqObj "list" (as.map Value.ref).toArray 0) := by rw [← hB]; exact Heap.get?_push_size _ rfl
  have old : ∀ b o, b ≠ B → h'.get? b = some o → (PySem.W.sortingHeap (h'.push { cls := .type "list", data := .seq (as.map Value.ref).toArray }) B (as.map Value.ref)).get? b = some o := fun b o hb e => PySem.W.sortingHeap_old hb (Heap.get?_push_of_some _ e)
  have F0 : Firsts (PySem.W.sortingHeap (h'.push { cls := .type "list", data := .seq (as.map Value.ref).toArray }) B (as.map Value.ref)) as (pys (ds.map (·.1))) := ⟨by rw [pys_map]; simp [hal], fun j a k h1 h2 => by
    have hj : j < its.length := by have := (List.getElem?_eq_some_iff.mp h1).1; omega
    have h3 : its[j]? = some its[j] := List.getElem?_eq_getElem hj
    obtain ⟨kv, vv, e1, e2, e3⟩ := objs j a its[j] h1 h3
    have ha := List.mem_of_getElem? h1
    rw [pys_map, List.getElem?_map] at h2
    obtain ⟨x, h4, rfl⟩ := Option.map_eq_some_iff.mp h2
    obtain ⟨v, h5, h6⟩ := r1.at h4
    rw [List.getElem?_map, h3] at h5
    cases h5
    obtain ⟨bs, rd⟩ := Dp.reads I' _ _ _ (by rw [hK]; exact dp_of R.wd.sub h6 (plains_mem pn x (List.mem_of_getElem? h4))) e2
    exact ⟨kv, vv, bs, old _ _ (fun z => hBA (z ▸ ha)) e1, Reads.keeps (fun b o e => old b o (fun z => by rw [z] at e; exact absurd (Heap.lt_size e) (by rw [← hB]; exact Nat.lt_irrefl _)) e) rd⟩⟩
  have room : ∀ k ∈ pys (ds.map (·.1)), X.A.in1.in1.units + k.depth < cLine := fun k hk => by
    have hu := g.units
    have h2 : k.depth ≤ PyData.depthAll (pys (ds.map (·.1))) := by
      generalize pys (ds.map (·.1)) = l at hk
      induction l with
      | nil => cases hk
      | cons x l ih =>
        rw [PyData.depthAll]
        rcases List.mem_cons.mp hk with e | h
        · rw [e]; exact Nat.le_max_left _ _
        · exact Nat.le_trans (ih h) (Nat.le_max_right _ _)
    show X.A.units + 1 + 1 + k.depth < cLine
    omega
  have SA := sortsAt_pairs (prog := X.prog) (w := X.w) (A := X.A.in1.in1) (s := { s with heap := PySem.W.sortingHeap (h'.push { cls := .type "list", data := .seq (as.map Value.ref).toArray }) B (as.map Value.ref), toks := tk }) F0 nd al.1 hs room
  have SV := sortVals_pairs (as := as) (ks := pys (ds.map (·.1))) (by rw [pys_map]; simp [hal]) nd
  refine wpAny_bind (wpAny_holding (wpAny_call_entry_kw slot_list_sort ⟨_, oB, rfl⟩ entry_list_sort (PySem.W.list_sort_vals (s := { s with heap := h'.push { cls := .type "list", data := .seq (as.map Value.ref).toArray }, toks := tk }) oB SA (by rw [List.length_map]; omega) ?_) (args_list_sort _)))
  refine ⟨_, rfl, wpAny_pure ⟨_, rfl, ?_⟩⟩
  rw [SV]
  -- the end
  generalize hbs : ((as.zip (pys (ds.map (·.1)))).mergeSort fun a b => !PySem.W.dataLt b.2 a.2).map (fun p => p.1) = bs
  have hbv : (((as.zip (pys (ds.map (·.1)))).mergeSort fun a b => !PySem.W.dataLt b.2 a.2).map fun p => Value.ref p.1) = bs.map Value.ref := by rw [← hbs, List.map_map]; rfl
  rw [hbv]
  have hbl : bs.length = as.length := by
    rw [← hbs, List.length_map, List.length_mergeSort, List.length_zip, pys_map, List.length_map, List.length_map, hal]; simp
  obtain ⟨e2, hB2⟩ := sortedHeap_at (vs := as.map Value.ref) (out := (bs.map Value.ref).toArray) oB
  have keepF : ∀ b o, s.heap.get? b = some o → (sortedHeap (h'.push { cls := .type "list", data := .seq (as.map Value.ref).toArray }) B (as.map Value.ref) (bs.map Value.ref).toArray).get? b = some o := fun b o e => by
    have e1 := hk b o e
    have lt := Heap.lt_size e1
    rw [sortedHeap_old (fun z => by rw [z, ← hB] at lt; exact Nat.lt_irrefl _ lt) (by rw [Heap.size_push]; exact Nat.lt_succ_of_lt lt)]
    exact Heap.get?_push_of_some _ e1
  have keepA : ∀ b o, b ≠ B → h'.get? b = some o → (sortedHeap (h'.push { cls := .type "list", data := .seq (as.map Value.ref).toArray }) B (as.map Value.ref) (bs.map Value.ref).toArray).get? b = some o := fun b o hb e1 => by
    have lt := Heap.lt_size e1
    rw [sortedHeap_old hb (by rw [Heap.size_push]; exact Nat.lt_succ_of_lt lt)]
    exact Heap.get?_push_of_some _ e1
  generalize (sortedHeap (h'.push { cls := .type "list", data := .seq (as.map Value.ref).toArray }) B (as.map Value.ref) (bs.map Value.ref).toArray) = hF at *
  have low : ∀ b o, s.heap.get? b = some o → b ∉ as ∧ b ≠ B := fun b o e => ⟨fun z => absurd (Heap.lt_size e) (Nat.not_lt.mpr (Nat.le_of_lt (hG.above b z))), fun z => by
    have := Heap.lt_size (hk b o e)
    rw [z, ← hB] at this
    exact Nat.lt_irrefl _ this⟩
  have off : ∀ b, b ∉ as → b ≠ B → putV (upd H B (.lst (bs.map V.ref))) as its b = H b := fun b h1 h2 => by rw [putV_off as its _ h1, upd_ne h2]
  have kp : ∀ b u, H b = some u → putV (upd H B (.lst (bs.map V.ref))) as its b = some u := fun b u e => by
    rw [off b (fun z => by rw [newA b z] at e; cases e) (fun z => by rw [z, newB] at e; cases e)]
    exact e
  have eB : putV (upd H B (.lst (bs.map V.ref))) as its B = some (.lst (bs.map V.ref)) := by rw [putV_off as its _ hBA, upd_same]
  have itsAt : ∀ (j : Nat) (a : Addr), as[j]? = some a → ∃ q, its[j]? = some q := fun j a e => ⟨its[j]'(by have := (List.getElem?_eq_some_iff.mp e).1; omega), List.getElem?_eq_getElem _⟩
  have J : Inv X pins σ (putV (upd H B (.lst (bs.map V.ref))) as its) { s with heap := hF, toks := tk } := by
    refine I.call' (ch := []) rfl ⟨fun b o e _ _ _ => keepF b o e, fun b o e _ _ _ => ⟨o.slots, keepF b o e⟩, fun b o e n _ => ?_, fun b o e _ => ⟨o, keepF b o e⟩, fun b xs e => kp b _ e, fun b o u e => kp b _ e, fun b ps e => ⟨#[], by rw [kp b _ e]; simp⟩⟩ (fun b u e => ?_) I.bare fun b z => by simp at z
    · obtain ⟨z1, z2⟩ := low b o e
      rw [off b z1 z2]
      exact n
    · by_cases hb : b ∈ as
      · obtain ⟨j, hj⟩ := List.getElem?_of_mem hb
        obtain ⟨pq, hq⟩ := itsAt j b hj
        rw [putV_at as its _ nd j b pq hj hq] at e
        cases e
        obtain ⟨kv, vv, o1, o2, o3⟩ := objs j b pq hj hq
        exact ⟨by show 2 ≤ sizeLine; decide, [kv, vv], .cons o2 (.cons o3 .nil), ⟨_, keepA _ _ (fun z => hBA (z ▸ hb)) o1, rfl, _, rfl⟩⟩
      · by_cases hb2 : b = B
        · rw [hb2] at e ⊢
          rw [eB] at e
          cases e
          refine ⟨by rw [List.length_map]; omega, bs.map Value.ref, e2, LiI.vals_refs bs, hB2⟩
        · rw [off b hb hb2] at e
          exact (I.hok b u e).stay (fun c v _ y => keepF c v y) (fun c y => kp c _ y) fun c xs y => kp c _ y
  have hFB : F B = none := R.wd.fresh newB
  have hFA : ∀ a ∈ as, F a = none := fun a ha => R.wd.fresh (newA a ha)
  have gr : Grow F H (putV F as its) (putV (upd H B (.lst (bs.map V.ref))) as its) := ⟨kp, fun b o e => by
    rw [putV_off as its _ (fun z => by rw [hFA b z] at e; cases e)]; exact e, fun b o e => by
    by_cases hb : b ∈ as
    · obtain ⟨j, hj⟩ := List.getElem?_of_mem hb
      obtain ⟨pq, hq⟩ := itsAt j b hj
      rw [putV_at as its _ nd j b pq hj hq] at e
      cases e
      exact .inr ⟨putV_at as its _ nd j b pq hj hq, .inl (newA b hb)⟩
    · rw [putV_off as its _ hb] at e
      exact .inl e, fun b ps e => by
    by_cases hb : b ∈ as
    · obtain ⟨j, hj⟩ := List.getElem?_of_mem hb
      obtain ⟨pq, hq⟩ := itsAt j b hj
      rw [putV_at as its _ nd j b pq hj hq] at e
      cases e
    · rw [putV_off as its _ hb] at e
      exact e⟩
  have R2 := R.grow gr
  have zl : ∀ b ∈ as.zip ds, Rep p.K (putV F as its) ι (.ref b.1) (.tup [b.2.1, b.2.2]) := fun b hb => by
    obtain ⟨j, hj⟩ := List.getElem?_of_mem hb
    obtain ⟨h1, h2⟩ := List.getElem?_zip_eq_some.mp hj
    obtain ⟨pq, hq⟩ := itsAt j _ h1
    obtain ⟨v1, g1, g2⟩ := r1.at (show (ds.map (·.1))[j]? = some b.2.1 by rw [List.getElem?_map, h2]; rfl)
    obtain ⟨v2, g3, g4⟩ := r2.at (show (ds.map (·.2))[j]? = some b.2.2 by rw [List.getElem?_map, h2]; rfl)
    rw [List.getElem?_map, hq] at g1 g3
    cases g1
    cases g3
    exact .tup (putV_at as its _ nd j _ pq h1 hq) (.cons (g2.le gr.f (LeA.refl _)) (.cons (g4.le gr.f (LeA.refl _)) .nil))
  have rall : ∀ l : List (Addr × D × D), (∀ b ∈ l, Rep p.K (putV F as its) ι (.ref b.1) (.tup [b.2.1, b.2.2])) → Reps p.K (putV F as its) ι (l.map fun b => V.ref b.1) (l.map fun b => D.tup [b.2.1, b.2.2]) := by
    intro l
    induction l with
    | nil => exact fun _ => .nil
    | cons b l ih => exact fun h => .cons (h b List.mem_cons_self) (ih fun c hc => h c (List.mem_cons_of_mem _ hc))
  have zs : ((as.zip ds).mergeSort fun a b => leD a.2.1 b.2.1).map (fun b => b.2) = ds.mergeSort fun a b => leD a.1 b.1 := by
    rw [PySem.W.sort_maps (s := fun a b : D × D => leD a.1 b.1) (fun b : Addr × D × D => b.2) (fun _ _ _ _ => rfl), List.map_snd_zip (by omega)]
  have zb : ((as.zip ds).mergeSort fun a b => leD a.2.1 b.2.1).map (fun b => b.1) = bs := by
    rw [← hbs]
    have e1 : as.zip (pys (ds.map (·.1))) = (as.zip ds).map fun b => (b.1, b.2.1.py) := by
      rw [pys_map, List.map_map, List.zip_map_right]; rfl
    rw [e1, ← PySem.W.sort_maps (r := fun a b : Addr × D × D => leD a.2.1 b.2.1) (fun b : Addr × D × D => (b.1, b.2.1.py)) (fun _ _ _ _ => rfl), List.map_map]
    rfl
  have rr := rall ((as.zip ds).mergeSort fun a b => leD a.2.1 b.2.1) fun b hb => zl b ((List.mergeSort_perm _ _).mem_iff.mp hb)
  have rr2 : Reps p.K (putV F as its) ι (bs.map V.ref) ((ds.mergeSort fun a b => leD a.1 b.1).map fun e => .tup [e.1, e.2]) := by
    rw [← zs, ← zb, List.map_map, List.map_map]
    exact rr
  have prB : Pr B = none := by
    cases z : Pr B with
    | none => rfl
    | some u => rw [(R.wd.prot B u z).1] at newB; cases newB
  have ow : ∀ j e, ρ[j]? = some (.own e) → α j ≠ B := fun j e hj z => by
    obtain ⟨_, _, _, h4, _⟩ := R.own j e hj
    obtain ⟨u, t, _⟩ := h4.there
    rw [z, newB] at t; cases t
  have fin : Q (.ref B) (putV (upd H B (.lst (bs.map V.ref))) as its) := q B _ _ R2 gr.f ⟨⟨_, eB, rr2⟩, by rw [putV_off as its _ hBA]; exact hFB, R.wd.notin newB, prB, ow⟩
  exact ⟨.ref B, _, J, rfl, fin⟩
/-- a dict by its entries -/
structure RawD (p : Pg) (h : Heap) (F : Hp) (ι : List Addr) (a : Addr) (es : Array DictEntry) (ep : Nat) (its : List (V × V)) (ds : List (D × D)) : Prop where
  raw : h.DictRaw a es ep
  sys : (a == sysModules) = false
  len : its.length = es.size
  sz : es.size ≤ sizeLine
  at_ : ∀ (j : Nat) (hj : j < es.size) (q : V × V), its[j]? = some q → RelV q.1 es[j].key ∧ RelV q.2 es[j].val
  keys : Reps p.K F ι (its.map (·.1)) (ds.map (·.1))
  vals : Reps p.K F ι (its.map (·.2)) (ds.map (·.2))
theorem ks_reps1 {K : PySem.W.Frag} {F : Hp} {ι : List Addr} {γ : Type} (f : γ → Key) : ∀ l : List γ, Reps K F ι (l.map fun e => kV (f e)) (l.map fun e => dK1 (f e))
  | [] => .nil
  | e :: l => .cons (dK1_rep _) (ks_reps1 f l)
theorem raw_dK {Pr F H : Hp} {ι : List Addr} {α : Nat → Addr} {σ : L2.St} {a : Addr} {kvs : List (Key × V)} {fs : List (Key × D)} {s : Shared} {pins : List (Addr × Obj)} (R : Rel p Pr ρ S F ι α σ H) (I : Inv X pins σ H s) (hd : Rd H a (.dK kvs)) (rk : RKV p.K F ι kvs fs) :
    ∃ es ep its, RawD p s.heap F ι a es ep its (fs.map fun e => (dK1 e.1, e.2)) := by
  obtain ⟨z, n, vs, kv, d⟩ := dk_rd I.hok hd
  obtain ⟨es, ep, r, sz, at_⟩ := d.raw
  have lk : kvs.length = vs.length := Paired.length kv
  refine ⟨es, ep, kvs.map fun e => (kV e.1, e.2), r, n, by rw [List.length_map]; omega, by omega, fun j hj q hq => ?_, ?_, ?_⟩
  · rw [List.getElem?_map] at hq
    obtain ⟨e, h1, rfl⟩ := Option.map_eq_some_iff.mp hq
    obtain ⟨y, h2, h3, h4⟩ := LiI.paired_get kv h1
    obtain ⟨k1, k2⟩ := at_ j hj y.1 y.2 h2
    rw [← h3] at k1
    exact ⟨relV_key (show keyIs e.1 es[j].key = true from k1), by rw [k2]; exact h4⟩
  · rw [List.map_map, List.map_map]
    have e1 : kvs.map ((fun x : V × V => x.1) ∘ fun e => (kV e.1, e.2)) = (fs.map (·.1)).map kV := by rw [← rk.1, List.map_map]; rfl
    rw [e1, List.map_map]
    exact ks_reps1 (fun e : Key × D => e.1) fs
  · rw [List.map_map, List.map_map]
    exact rk.2
theorem raw_dT {Pr F H : Hp} {ι : List Addr} {α : Nat → Addr} {σ : L2.St} {a : Addr} {kvs : List (List Key × V)} {fs : List (List Key × D)} {s : Shared} {pins : List (Addr × Obj)} (R : Rel p Pr ρ S F ι α σ H) (I : Inv X pins σ H s) (hd : Rd H a (.dT kvs)) (rk : RKV p.K F ι kvs fs) :
    ∃ F' es ep its, Grow F H F' H ∧ RawD p s.heap F' ι a es ep its (fs.map fun e => (dT1 e.1, e.2)) := by
  obtain ⟨z, n, xs, kt, d⟩ := dt_rd I.hok hd
  obtain ⟨es, ep, r, sz, at_⟩ := d.raw
  have lk : kvs.length = xs.length := Paired.length kt
  -- the key tuples join what is kept
  have tupF : ∀ (b : Addr) (o : HO) (ks : List Key), F b = some o → H b = some (.tup (ks.map kV)) → o = .tup (ks.map kV) := fun b o ks h1 h2 => by
    rcases R.wd.sub _ _ h1 with q | ⟨_, ob, q⟩
    · rw [h2] at q; cases q; rfl
    · rw [h2] at q; cases q
  let F' : Hp := fun b => match F b with
    | some o => some o
    | none => if b ∈ xs.map (·.2.1) then H b else none
  have fl : LeH F F' := fun b o e => by show (match F b with | some o => some o | none => _) = _; rw [e]
  have fn : ∀ b, F b = none → b ∈ xs.map (·.2.1) → F' b = H b := fun b e m => by show (match F b with | some o => some o | none => _) = _; rw [e]; simp only; rw [if_pos m]
  have kH : ∀ (j : Nat) (y : List Key × Addr × Value), xs[j]? = some y → ∃ e, kvs[j]? = some e ∧ e.1 = y.1 ∧ H y.2.1 = some (.tup (y.1.map kV)) ∧ RelV e.2 y.2.2 := fun j y hy => by
    have hj : j < kvs.length := by rw [lk]; exact (List.getElem?_eq_some_iff.mp hy).1
    obtain ⟨y', h1, h2, h3, h4⟩ := LiI.paired_get kt (List.getElem?_eq_getElem hj)
    rw [hy] at h1; cases h1
    exact ⟨kvs[j], List.getElem?_eq_getElem hj, h2, by rw [← h2]; exact h3, h4⟩
  have gr : Grow F H F' H := ⟨LeH.refl _, fl, fun b o e => by
    cases hF : F b with
    | some u => left; rw [fl b u hF] at e; exact e
    | none =>
      right
      have e : (match F b with | some o => some o | none => if b ∈ xs.map (·.2.1) then H b else none) = some o := e
      rw [hF] at e
      simp only at e
      split at e
      · rename_i m
        refine ⟨e, .inr ?_⟩
        obtain ⟨y, hy, rfl⟩ := List.mem_map.mp m
        obtain ⟨j, hj⟩ := List.getElem?_of_mem hy
        obtain ⟨_, _, _, h3, _⟩ := kH j y hj
        rw [h3] at e; cases e
        exact ⟨_, rfl⟩
      · (cases e), fun b ps e => by
    cases hF : F b with
    | some u => rw [fl b u hF] at e; exact e
    | none =>
      have e : (match F b with | some o => some o | none => if b ∈ xs.map (·.2.1) then H b else none) = some (.tbl ps) := e
      rw [hF] at e
      simp only at e
      split at e
      · rename_i m
        obtain ⟨y, hy, rfl⟩ := List.mem_map.mp m
        obtain ⟨j, hj⟩ := List.getElem?_of_mem hy
        obtain ⟨_, _, _, h3, _⟩ := kH j y hj
        rw [h3] at e; cases e
      · cases e⟩
  have kF : ∀ (j : Nat) (y : List Key × Addr × Value), xs[j]? = some y → F' y.2.1 = some (.tup (y.1.map kV)) := fun j y hy => by
    obtain ⟨_, _, _, h3, _⟩ := kH j y hy
    cases hF : F y.2.1 with
    | some o => rw [fl _ _ hF, tupF _ _ _ hF h3]
    | none => rw [fn _ hF (List.mem_map.mpr ⟨y, List.mem_of_getElem? hy, rfl⟩), h3]
  have hrk : RKV p.K F' ι kvs fs := rk.le fl (LeA.refl _)
  have kd : kvs.map (·.1) = fs.map (·.1) := rk.1
  have kx : xs.map (·.1) = kvs.map (·.1) := by
    refine List.ext_getElem? fun j => ?_
    rw [List.getElem?_map, List.getElem?_map]
    cases hx : xs[j]? with
    | none => rw [List.getElem?_eq_none (by have := List.getElem?_eq_none_iff.mp hx; omega)]; rfl
    | some y => obtain ⟨e, h1, h2, _⟩ := kH j y hx; rw [h1]; simp [h2]
  refine ⟨F', es, ep, (xs.zip kvs).map fun q => (.ref q.1.2.1, q.2.2), gr, r, n, by rw [List.length_map, List.length_zip]; omega, by omega, fun j hj q hq => ?_, ?_, ?_⟩
  · rw [List.getElem?_map] at hq
    obtain ⟨⟨y, e⟩, h1, rfl⟩ := Option.map_eq_some_iff.mp hq
    obtain ⟨h2, h3⟩ := List.getElem?_zip_eq_some.mp h1
    obtain ⟨y', k1, k2, k3, _⟩ := at_ j hj
    rw [h2] at k1; cases k1
    obtain ⟨e', g1, _, _, g4⟩ := kH j y h2
    rw [h3] at g1; cases g1
    exact ⟨by rw [k2]; rfl, by rw [k3]; exact g4⟩
  · have e1 : ((xs.zip kvs).map fun q => ((V.ref q.1.2.1, q.2.2) : V × V)).map (·.1) = xs.map fun y => V.ref y.2.1 := by
      rw [List.map_map, show ((fun x : V × V => x.1) ∘ fun q : (List Key × Addr × Value) × (List Key × V) => ((V.ref q.1.2.1, q.2.2) : V × V)) = (fun y : List Key × Addr × Value => V.ref y.2.1) ∘ (·.1) from rfl, ← List.map_map, List.map_fst_zip (by omega)]
    have e2 : (fs.map fun e => (dT1 e.1, e.2)).map (·.1) = (xs.map (·.1)).map dT1 := by rw [kx, kd, List.map_map, List.map_map]; rfl
    rw [e1, e2, List.map_map]
    have : ∀ l : List (List Key × Addr × Value), (∀ y ∈ l, F' y.2.1 = some (.tup (y.1.map kV))) → Reps p.K F' ι (l.map fun y => V.ref y.2.1) (l.map (dT1 ∘ fun y => y.1)) := by
      intro l
      induction l with
      | nil => exact fun _ => .nil
      | cons y l ih => exact fun h => .cons (.tup (h y List.mem_cons_self) (ks_reps y.1)) (ih fun c hc => h c (List.mem_cons_of_mem _ hc))
    exact this xs fun y hy => by obtain ⟨j, hj⟩ := List.getElem?_of_mem hy; exact kF j y hj
  · have e1 : ((xs.zip kvs).map fun q => ((V.ref q.1.2.1, q.2.2) : V × V)).map (·.2) = kvs.map (·.2) := by
      rw [List.map_map, show ((fun x : V × V => x.2) ∘ fun q : (List Key × Addr × Value) × (List Key × V) => ((V.ref q.1.2.1, q.2.2) : V × V)) = (fun y : List Key × V => y.2) ∘ (·.2) from rfl, ← List.map_map, List.map_snd_zip (by omega)]
    rw [e1, List.map_map]
    exact hrk.2
theorem sitD_eq {u d : D} (e : sitD u = some d) : (∃ es : List (Key × D), u = .dK es ∧ okDist (es.map fun e => dK1 e.1) = true ∧ d = .lst (((es.map fun e => (dK1 e.1, e.2)).mergeSort fun a b => leD a.1 b.1).map fun e => .tup [e.1, e.2])) ∨
    ∃ es : List (List Key × D), u = .dT es ∧ okDist (es.map fun e => dT1 e.1) = true ∧ d = .lst (((es.map fun e => (dT1 e.1, e.2)).mergeSort fun a b => leD a.1 b.1).map fun e => .tup [e.1, e.2]) := by
  cases u <;> try cases e
  · rename_i es
    have e : (if okDist (es.map fun e => dK1 e.1) then some (D.lst ((es.mergeSort fun a b => leD (dK1 a.1) (dK1 b.1)).map fun e => .tup [dK1 e.1, e.2])) else none) = some d := e
    split at e
    · rename_i h
      cases e
      refine .inl ⟨es, rfl, h, ?_⟩
      rw [← PySem.W.sort_maps (r := fun a b : Key × D => leD (dK1 a.1) (dK1 b.1)) (fun e : Key × D => (dK1 e.1, e.2)) (fun _ _ _ _ => rfl), List.map_map]
      rfl
    · cases e
  · rename_i es
    have e : (if okDist (es.map fun e => dT1 e.1) then some (D.lst ((es.mergeSort fun a b => leD (dT1 a.1) (dT1 b.1)).map fun e => .tup [dT1 e.1, e.2])) else none) = some d := e
    split at e
    · rename_i h
      cases e
      refine .inr ⟨es, rfl, h, ?_⟩
      rw [← PySem.W.sort_maps (r := fun a b : List Key × D => leD (dT1 a.1) (dT1 b.1)) (fun e : List Key × D => (dT1 e.1, e.2)) (fun _ _ _ _ => rfl), List.map_map]
      rfl
    · cases e
theorem fn_sitm {apos cpos pp : Pos} {x : Str} (g : Good p N sc fn k X) (hx : x = "sorted") (hg : sc.names.lookup x = some .globalImplicit) (hm : p.mg x = none) (hb : noCall ea = true) (hl : (apos.endLine == cpos.line) = true)
    (ha : FH p X ρ S ea (hOf a ρ S (evE G a ρ S))) : FN p X ρ S (.Call (.Name x pp) [.Call (.Attribute ea "items" apos) [] [] cpos] [] pos) (evE G (.sitm a) ρ S) := by
  intro Pr F ι α σ H R d S' e Q q pins s I
  rw [evE] at e
  obtain ⟨⟨w, S1⟩, e1, e⟩ := Option.bind_eq_some_iff.mp e
  obtain ⟨u, e2, e⟩ := Option.bind_eq_some_iff.mp e
  obtain ⟨d', e5, e6⟩ := Option.map_eq_some_iff.mp e
  cases e6
  have hG : Gl X x := by show X.env.scope.names.lookup x = _; rw [g.sc]; exact hg
  have hM : X.mg x = none := by rw [← hm, ← g.pg]; rfl
  subst hx
  refine wpAny_Call_Name_kw (ld_blt I hG hM (show bootBuiltins ("sorted" : Str) = some (.builtin "sorted") by decide +kernel) ?_ (by decide) (by decide))
  refine PyProof.Rows.callWith_builtin1 ?_ (star_cons rfl) rfl
  rw [star_cons (e := .Call (.Attribute ea "items" apos) [] [] cpos) rfl]
  show wpAny _ _ (spliced ((false, eval (.Call (.Attribute ea "items" apos) [] [] cpos) X.env) :: backTo pos (starEach [] X.env))) _ _ s
  refine Calls.spliced_cons ?_
  have wa := ha Pr F ι α σ H R w S1 e1 (fun x H' => ∃ F' ι', Rel p Pr ρ S1 F' ι' α σ H' ∧ LeH F F' ∧ LeA ι ι' ∧ HRep p F' ι' α x w) fun x F' ι' H' R' l m r => ⟨F', ι', R', l, m, r⟩
  refine wpAny_Call_method (T := "dict") (id := "dict.items") (attr_ok hb) rfl hl PySem.F.plainAttrs_dict PySem.F.slot_dict_items PySem.F.type_dict_items (thn (wa pins s I) fun u s1 hx => ?_)
  obtain ⟨x, H1, I1, rx, F1, ι1, R1, l1, m1, r1⟩ := hx
  have cv := cv_of R1 r1 e2
  -- the dict by its entries
  have rawd : ∃ ad F2 es ep its ds, u = .ref ad ∧ Grow F1 H1 F2 H1 ∧ RawD p s1.heap F2 ι1 ad es ep its ds ∧ okDist (ds.map (·.1)) = true ∧ d = .lst ((ds.mergeSort fun a b => leD a.1 b.1).map fun e => .tup [e.1, e.2]) := by
    rcases sitD_eq e5 with ⟨fs, rfl, ok, rfl⟩ | ⟨fs, rfl, ok, rfl⟩
    · obtain ⟨ad, kvs, rfl, q1, q2, q3⟩ := cv
      obtain ⟨es, ep, its, rd⟩ := raw_dK (fs := fs) R1 I1 q1 ⟨q2, q3⟩
      exact ⟨ad, F1, es, ep, its, _, rx, .refl, rd, by rw [List.map_map]; exact ok, rfl⟩
    · obtain ⟨ad, kvs, rfl, q1, q2, q3⟩ := cv
      obtain ⟨F2, es, ep, its, gr, rd⟩ := raw_dT (fs := fs) R1 I1 q1 ⟨q2, q3⟩
      exact ⟨ad, F2, es, ep, its, _, rx, gr, rd, by rw [List.map_map]; exact ok, rfl⟩
  obtain ⟨ad, F2, es, ep, its, ds, rfl, gr, rd, ok, rfl⟩ := rawd
  have R2 := R1.grow gr
  refine ⟨rd.raw.typeIs, ?_, ?_⟩
  · intro b hb
    obtain ⟨o, ho, hc, _⟩ := rd.raw
    cases hb
    exact ⟨o, ho, hc.2.1⟩
  show wpAny _ _ (callWith cpos (.builtin "dict.items") [.ref ad] [] []) _ X.xe s1
  refine method_meetsIn PySem.F.slot_dict_items PySem.F.entry_dict_items rfl (PySem.evalArgs_none ⟨rfl, rd.raw.typeIs, PySem.F.args_dict_items_1 _, _, meets_dict_items_raw ad rd.sys, ⟨_, _, rd.raw⟩, ?_⟩)
  refine Calls.spliced_nil ?_
  have I2 : Inv X pins σ H1 { s1 with heap := s1.heap.push { cls := .type "dict_items", data := .fields #[.ref ad] } } := I1.kept (t' := s1.toks) fun b ob q => Heap.get?_push_of_some _ q
  exact sit_core g R2 I2 ⟨_, Heap.get?_push_size _ rfl, rfl, rfl⟩ (rd.raw.push _) rd.sz rd.len rd.at_ rd.keys rd.vals ok fun c F' H' R' l f => q c F' ι1 H' R' ((l1.trans gr.f).trans l) m1 f
end
end Z

set_option Elab.async false
set_option linter.all false
set_option maxRecDepth 100000
set_option maxHeartbeats 4000000
namespace Z
open PySem PySem.Spec PyProof.Rows L2
/-! # sorted(xs, key=f), f a def that leaves the store -/
section
variable {p : Pg} {N : List Str} {sc : Scope} {fn : Str → Bool} {k : Nat} {X : Cx} {G : Fns} {ρ : Env'} {S : Store} {ea eb : Expr} {pos : Pos} {a b : Ex}
/-- a callee runs, two built-ins deeper -/
theorem go_fn2 {f : Addr} {fd : FuncData} {ps : List Str} {gf : List D → Store → Option (D × Store)} {Pr F : Hp} {ι : List Addr} {α : Nat → Addr} {σ : L2.St} {H : Hp} {pins : List (Addr × Obj)} {s : Shared} {us : List Value} {vs : List V} {ds : List D} {d : D} {S' : Store} {Q : VK} {E : Value → Shared → Prop}
    (K : FnG p k f fd ps gf) (hb : Binds p.K fd ps []) (g : Good p N sc fn (k + 1) X) (I : Inv X pins σ H s) (rv : Vals vs us) (R : Rel p Pr ρ S F ι α σ H) (rs : Reps p.K F ι vs ds) (e : gf ds S = some (d, S'))
    (q : ∀ v F' ι' H', Rel p Pr ρ S' F' ι' α σ H' → LeH F F' → LeA ι ι' → Rep p.K F' ι' v d → Q v H') : wpAny (model X.prog X.w) X.A.in1.in1 (call (.ref f) us) (EP X pins σ Q) E s := by
  obtain ⟨cl, cn, T, rfl⟩ : ∃ cl cn T, p = X.pg cl cn T := ⟨p.cls, p.con, p.T, g.pg.symm⟩
  have hl : us.length = ps.length := by rw [← rv.length, rs.length]; exact K.len _ _ _ e
  have bd := hb s us I.kIn (by rw [List.append_nil]; exact hl)
  rw [List.append_nil] at bd
  have rm : Room k X.A.in1.in1 := ⟨g.room.hd, by have := g.room.dp; show X.A.depth + 3 * k + 5 < _; omega, by have := g.room.un; show X.A.units + 1 + 1 + 16 * k + 200 < _; omega⟩
  refine wpAny_call (codeAny_mono (K.run X.A.in1.in1 X.stack s H ⟨us, []⟩ us vs ds S S' d _ F ι rm g.grd I.env0.in1.in1 bd rv rs (grd_wd R) e) fun r s' hr => ?_)
  obtain ⟨u, rfl, v, H', os, bare, un, hok, ru, F', ι', W, l, m, rr⟩ := hr
  exact I.after ⟨v, H', os, bare, un, hok, ru, q v F' ι' H' (grd_back R W l m) l m rr⟩
/-- addresses behind all that stood -/
theorem Inv.newAt {pins : List (Addr × Obj)} {σ : L2.St} {H : Hp} {s : Shared} {c : Addr} (I : Inv X pins σ H s) (h : s.heap.objs.size ≤ c) : X.s_0.heap.objs.size ≤ c ∧ c ≠ X.env.locals ∧ c ∉ X.fs ∧ (∀ x d, X.env.cells.lookup x = some d → d ≠ c) ∧ (∀ q ∈ X.pn ++ pins, q.1 ≠ c) ∧ H c = none := by
  refine ⟨Nat.le_trans I.sz h, fun z => ?_, I.nofs h, fun x d e z => ?_, fun q hq z => ?_, I.hok.fresh h⟩
  · have := I.lt
    rw [← z] at this
    exact absurd (Nat.lt_of_lt_of_le this h) (Nat.lt_irrefl _)
  · obtain ⟨v, o, ho, _⟩ := I.cell x d e
    have := Heap.lt_size ho
    rw [z] at this
    exact absurd (Nat.lt_of_lt_of_le this h) (Nat.lt_irrefl _)
  · have := Heap.lt_size (I.pin q hq).1
    rw [z] at this
    exact absurd (Nat.lt_of_lt_of_le this h) (Nat.lt_irrefl _)
theorem keysG_at {f : D → Option (D × Store)} {S : Store} : ∀ {xs ks : List D}, keysG f S xs = some ks → ks.length = xs.length ∧ ∀ (j : Nat) (x : D), xs[j]? = some x → ∃ y, ks[j]? = some y ∧ f x = some (y, S)
  | [], ks, e => by cases e; exact ⟨rfl, fun j x h => by simp at h⟩
  | x :: xs, ks, e => by
    unfold keysG at e
    obtain ⟨⟨y, S'⟩, e1, e2⟩ := Option.bind_eq_some_iff.mp e
    split at e2
    · rename_i hS
      obtain ⟨ks', e3, rfl⟩ := Option.map_eq_some_iff.mp e2
      obtain ⟨h1, h2⟩ := keysG_at e3
      simp only at hS
      subst hS
      refine ⟨by simp [h1], fun j z h => ?_⟩
      cases j with
      | zero => simp at h; subst h; exact ⟨y, rfl, e1⟩
      | succ j => exact h2 j z (by simpa using h)
    · cases e2
theorem eachReads {h : Heap} : ∀ {us : List Value} {ds : List PyData} {as : List Addr}, ReadsAll h us ds as → PySem.W.EachIs (fun v k => ∃ as, Reads h v k as) us ds
  | [], _, _, r => by cases r; exact .nil
  | u :: us, _, _, r => by
    cases r with
    | cons a b => exact .cons ⟨_, a⟩ (eachReads b)
theorem skey_core {fa : Addr} {gf : D → Option (D × Store)} {Pr F H : Hp} {ι : List Addr} {α : Nat → Addr} {σ : L2.St} {pins : List (Addr × Obj)} {s : Shared} {l : Addr} {vs : List V} {xs ks : List D} {d : D} {Q : VK}
    (g : Good p N sc fn (k + 1) X)
    (K : ∀ {F1 : Hp} {ι1 : List Addr} {H1 : Hp} {s1 : Shared} {pins1 : List (Addr × Obj)} {v : V} {u : Value} {x y : D}, Inv X pins1 σ H1 s1 → (∀ q ∈ pins, q ∈ pins1) → Rel p Pr ρ S F1 ι1 α σ H1 → LeH F F1 → LeA ι ι1 → RelV v u → Rep p.K F1 ι1 v x → gf x = some (y, S) →
      wpAny (model X.prog X.w) X.A.in1.in1 (call (.ref fa) [u]) (EP X pins1 σ fun v' H' => ∃ F' ι', Rel p Pr ρ S F' ι' α σ H' ∧ LeH F1 F' ∧ LeA ι1 ι' ∧ Rep p.K F' ι' v' y) (fun _ _ => False) s1)
    (R : Rel p Pr ρ S F ι α σ H) (I : Inv X pins σ H s) (hl : SqL X.K H l vs) (rs : Reps p.K F ι vs xs)
    (ek : keysG gf S xs = some ks) (es : sortByD xs ks = some d)
    (q : ∀ c F' ι' H', Rel p Pr ρ S F' ι' α σ H' → LeH F F' → LeA ι ι' → Fr p Pr ρ F' ι' α H' c d → Q (.ref c) H') :
    wpAny (model X.prog X.w) X.A (call (.builtin "sorted") [.ref l] [(Str.ofString "key", .ref fa)]) (EP X pins σ Q) X.xe s := by
  have hK : X.K = p.K := g.K
  obtain ⟨its, rv, pl, hz⟩ := I.list hl
  obtain ⟨hkl, hka⟩ := keysG_at ek
  unfold sortByD at es
  split at es
  case isFalse => cases es
  rename_i hso
  obtain ⟨ok, _⟩ := hso
  cases es
  have okA : okAll ks = true := by unfold okSort at ok; rw [Bool.and_eq_true] at ok; exact ok.1
  obtain ⟨al, pn, dp⟩ := alikeAll_of okA
  have hvl : its.length = xs.length := by rw [← rv.length]; exact rs.length
  have hzl : its.length ≤ sizeLine := by rw [← rv.length]; exact hz
  refine PySem.W.sorted_of_sort pl.isList hzl (PyProof.Rows.ksk_s1 _ _) (fun _ => PyProof.Rows.ksk_l1 _ _) fun E' => ?_
  rw [PyProof.Rows.ksk_t1]
  generalize hA : s.heap.objs.size + 1 = A0
  have oA : (PySem.W.copyHeap s.heap its).get? A0 = some (seqObj "list" its.toArray 0) := by rw [← hA]; exact PySem.W.copyHeap_at _ _
  have hA0 : A0 < (PySem.W.copyHeap s.heap its).objs.size := Heap.lt_size oA
  have oldC : ∀ b o, s.heap.get? b = some o → (PySem.W.copyHeap s.heap its).get? b = some o := fun b o e => PySem.W.copyHeap_old e
  generalize PySem.W.copyHeap s.heap its = hc at *
  unfold ksk_tree
  refine wpAny_bind (listItems_at oA rfl ?_)
  refine wpAny_bind (listUpdate_at oA rfl ?_ (by rw [List.size_toArray]; exact hzl) (Nat.zero_le _))
  obtain ⟨e1, oA1⟩ : ∃ e1, (hc.update A0 (Obj.mapSeq fun _ => (#[] : Array Value))).get? A0 = some (seqObj "list" #[] e1) := ⟨_, get?_update_seq oA fun _ => #[]⟩
  refine wpAny_bind (seqEpoch_at oA1 rfl ?_)
  refine wpAny_bind (wpAny_newTuple ?_ (by show its.length ≤ _; exact hzl))
  refine wpAny_bind (wpAny_newList ?_ (Nat.zero_le _))
  refine wpAny_holding ?_
  have oldD : ∀ b o, s.heap.get? b = some o → (((hc.update A0 (Obj.mapSeq fun _ => (#[] : Array Value))).push (seqObj "tuple" its.toArray 0)).push (seqObj "list" #[] 0)).get? b = some o := fun b o e => by
    have hb : b ≠ A0 := by rw [← hA]; exact Nat.ne_of_lt (Nat.lt_succ_of_lt (Heap.lt_size e))
    exact Heap.get?_push_of_some _ (Heap.get?_push_of_some _ ((Heap.get?_update_ne _ _ _ _ hb).trans (oldC b o e)))
  have oA2 : (((hc.update A0 (Obj.mapSeq fun _ => (#[] : Array Value))).push (seqObj "tuple" its.toArray 0)).push (seqObj "list" #[] 0)).get? A0 = some (seqObj "list" #[] e1) := Heap.get?_push_of_some _ (Heap.get?_push_of_some _ oA1)
  have hKs : ((hc.update A0 (Obj.mapSeq fun _ => (#[] : Array Value))).push (seqObj "tuple" its.toArray 0)).objs.size = hc.objs.size + 1 := by rw [Heap.size_push, Heap.size_update]
  have oK : (((hc.update A0 (Obj.mapSeq fun _ => (#[] : Array Value))).push (seqObj "tuple" its.toArray 0)).push (seqObj "list" #[] 0)).get? ((hc.update A0 (Obj.mapSeq fun _ => (#[] : Array Value))).push (seqObj "tuple" its.toArray 0)).objs.size = some (seqObj "list" #[] 0) := Heap.get?_push_size _ rfl
  generalize hKS : ((hc.update A0 (Obj.mapSeq fun _ => (#[] : Array Value))).push (seqObj "tuple" its.toArray 0)).objs.size = kS at *
  have hKA : A0 < kS := by omega
  have hSA : s.heap.objs.size ≤ A0 := by omega
  show wpAny _ _ (ksk_rest A0 (.ref fa) false its.toArray e1 (.ref kS)) _ E' { s with heap := ((hc.update A0 (Obj.mapSeq fun _ => (#[] : Array Value))).push (seqObj "tuple" its.toArray 0)).push (seqObj "list" #[] 0) }
  generalize ((hc.update A0 (Obj.mapSeq fun _ => (#[] : Array Value))).push (seqObj "tuple" its.toArray 0)).push (seqObj "list" #[] 0) = h1 at *
  obtain ⟨nA1, nA2, nA3, nA4, nA5, nA6⟩ := Inv.newAt I hSA
  obtain ⟨nK1, nK2, nK3, nK4, nK5, nK6⟩ := Inv.newAt I (c := kS) (by omega)
  have I1 : Inv X ((A0, seqObj "list" #[] e1) :: (kS, seqObj "list" #[] 0) :: pins) σ H { s with heap := h1 } := by
    refine (I.kept (t' := s.toks) oldD).pins_of fun q hq => ?_
    rcases List.mem_cons.mp hq with rfl | hq
    · exact ⟨oA2, nA6, nA2, nA3, fun v z => by cases z⟩
    rcases List.mem_cons.mp hq with rfl | hq
    · exact ⟨oK, nK6, nK2, nK3, fun v z => by cases z⟩
    · exact (I.kept (t' := s.toks) oldD).pin q (List.mem_append_right _ hq)
  unfold ksk_rest
  refine wpAny_bind (wpAny_rule ?_)
  first
    | rw [List.forIn_toArray]
    | (rw [← Array.forIn_toList]; simp only [List.toList_toArray])
    | rw [← Array.forIn_toList]
  refine wpAny_bind (PyProof.Rows.ksk_fold (fun i s' => ∃ F' ι' H' kA e kvs, Inv X ((A0, seqObj "list" #[] e1) :: (kS, seqObj "list" kA e) :: pins) σ H' s' ∧ Rel p Pr ρ S F' ι' α σ H' ∧ LeH F F' ∧ LeA ι ι' ∧ Vals kvs kA.toList ∧ Reps p.K F' ι' kvs (ks.take i)) its 0 { s with heap := h1 }
    ⟨F, ι, H, #[], 0, [], I1, R, LeH.refl _, LeA.refl _, .nil, by rw [List.take_zero]; exact .nil⟩ ?step ?done)
  case step =>
    rintro j x s' hx ⟨F1, ι1, H1, kA, e, kvs, J, R1, l1, m1, rk, rq⟩
    simp only [Nat.zero_add] at rq ⊢
    have hj : j < its.length := (List.getElem?_eq_some_iff.mp hx).1
    have hjx : xs[j]? = some (xs[j]'(by omega)) := List.getElem?_eq_getElem _
    obtain ⟨y, hy, ey⟩ := hka j _ hjx
    have hjv : j < vs.length := by rw [rv.length]; exact hj
    obtain ⟨w', hw1, hw2⟩ := rv.get (List.getElem?_eq_getElem hjv)
    rw [hx] at hw1; cases hw1
    obtain ⟨dd, hd1, hd2⟩ := rs.of_at (List.getElem?_eq_getElem hjv)
    rw [hjx] at hd1; cases hd1
    have hkz : kA.size ≤ its.length := by
      have z1 : kvs.length = kA.toList.length := rk.length
      have z2 : kvs.length = (ks.take j).length := rq.length
      have z3 : kA.toList.length = kA.size := Array.length_toList
      have z4 : (ks.take j).length ≤ j := List.length_take_le _ _
      omega
    refine wpAny_bind (wpAny_attempt (wpAny_mono (K J (fun q hq => List.mem_cons_of_mem _ (List.mem_cons_of_mem _ hq)) R1 l1 m1 hw2 (hd2.le l1 m1) ey) (fun u s'' he => ?_) fun _ _ hF => hF.elim))
    obtain ⟨v, H2, J2, ru, F2, ι2, R2, l2, m2, rr⟩ := he
    dsimp only
    obtain ⟨pA, pA2, _⟩ := J2.pin (A0, seqObj "list" #[] e1) (List.mem_append_right _ (List.mem_cons_self ..))
    obtain ⟨pK, pK2, pK3, pK4, _⟩ := J2.pin (kS, seqObj "list" kA e) (List.mem_append_right _ (List.mem_cons_of_mem _ (List.mem_cons_self ..)))
    dsimp only at pA pA2 pK pK2 pK3 pK4
    have s1 := Heap.SameBut.update s''.heap kS (Obj.mapSeq (·.push u))
    obtain ⟨c2, hc2⟩ : ∃ c2, (s''.heap.update kS (Obj.mapSeq (·.push u))).get? kS = some (seqObj "list" (kA.push u) c2) := ⟨_, get?_update_seq pK (·.push u)⟩
    refine wpAny_bind (listUpdate_at pK rfl ?_ (Nat.le_trans hkz hzl) (Nat.le_trans (Nat.le_of_eq (Array.size_push ..)) (Nat.succ_le_succ (Nat.le_trans hkz hzl))))
    refine wpAny_pure ⟨rfl, F2, ι2, H2, kA.push u, c2, kvs ++ [v], ?_, R2, l1.trans l2, m1.trans m2, ?_, ?_⟩
    · have J3 : Inv X ((A0, seqObj "list" #[] e1) :: pins) σ H2 s'' := J2.pins_of fun q hq => J2.pin q (List.mem_append_right _ (by
        rcases List.mem_cons.mp hq with rfl | hq
        · exact List.mem_cons_self ..
        · exact List.mem_cons_of_mem _ (List.mem_cons_of_mem _ hq)))
      have J4 := J3.turned (it := kS) (t' := s''.toks) (h' := s''.heap.update kS (Obj.mapSeq (·.push u))) (fun b o hb e => (s1.2 b hb).trans e) pK2 nK2 (.inr nK1) nK4 (fun q hq => by
        rcases List.mem_append.mp hq with hq | hq
        · exact nK5 q (List.mem_append_left _ hq)
        · rcases List.mem_cons.mp hq with rfl | hq
          · exact Nat.ne_of_lt hKA
          · exact nK5 q (List.mem_append_right _ hq))
      refine J4.pins_of fun q hq => ?_
      rcases List.mem_cons.mp hq with rfl | hq
      · exact J4.pin _ (List.mem_append_right _ (List.mem_cons_self ..))
      rcases List.mem_cons.mp hq with rfl | hq
      · exact ⟨hc2, pK2, nK2, nK3, fun v z => by cases z⟩
      · exact J4.pin _ (List.mem_append_right _ (List.mem_cons_of_mem _ hq))
    · have ea : (kA.push u).toList = kA.toList ++ [u] := by simp
      rw [ea]
      exact rk.append (.cons ru .nil)
    · have ek' : ks.take (j + 1) = ks.take j ++ [y] := by rw [List.take_add_one, hy]; rfl
      rw [ek']
      exact (rq.le l2 m2).app (.cons rr .nil)
  case done =>
    rintro s' ⟨F1, ι1, H1, kA, e, kvs, J, R1, l1, m1, rk, rq⟩
    have e3 : ks.take (0 + its.length) = ks := List.take_of_length_le (by omega)
    rw [e3] at rq
    have hkl2 : kvs.length = ks.length := rq.length
    have hsz : kA.size = its.length := by
      have z1 : kvs.length = kA.toList.length := rk.length
      have z3 : kA.toList.length = kA.size := Array.length_toList
      omega
    obtain ⟨pA, pA2, _⟩ := J.pin (A0, seqObj "list" #[] e1) (List.mem_append_right _ (List.mem_cons_self ..))
    obtain ⟨pK, pK2, _⟩ := J.pin (kS, seqObj "list" kA e) (List.mem_append_right _ (List.mem_cons_of_mem _ (List.mem_cons_self ..)))
    dsimp only at pA pA2 pK pK2
    have J0 : Inv X pins σ H1 s' := J.pins_of fun q hq => J.pin q (List.mem_append_right _ (List.mem_cons_of_mem _ (List.mem_cons_of_mem _ hq)))
    obtain ⟨bs0, ra⟩ := Dp.readsAll J0 _ _ kA.toList (by rw [hK]; exact dps_of R1.wd.sub rq pn) rk
    have hk' : PySem.W.EachIs (fun v k => ∃ as, Reads s'.heap v k as) kA.toList (pys ks) := eachReads ra
    try dsimp only
    refine wpAny_bind (listItems_at pK rfl ?_)
    have hu : ∀ d ∈ pys ks, X.A.in1.in1.units + d.depth < cLine := fun d hd => by
      have hu := g.units
      have h2 : d.depth ≤ PyData.depthAll (pys ks) := by
        generalize pys ks = l at hd
        induction l with
        | nil => cases hd
        | cons x l ih =>
          rw [PyData.depthAll]
          rcases List.mem_cons.mp hd with e | h
          · rw [e]; exact Nat.le_max_left _ _
          · exact Nat.le_trans (ih h) (Nat.le_max_right _ _)
      show X.A.units + 1 + 1 + d.depth < cLine
      omega
    have SA := PySem.W.SortsAt.data (prog := X.prog) (w := X.w) (A := X.A.in1.in1) (s := s') hk' al.1 (sortable_of ok) hu
    refine PySem.W.keyH_end (κ := PySem.W.dataKind s'.heap (pys ks)) (h₁ := PySem.W.hideAll s'.heap [kS]) (fun b o hb e => PySem.W.of_hideAll _ e) (PySem.W.hideAll_none _ (List.mem_cons_self ..)) pK pA (Nat.ne_of_gt hKA) SA hsz hzl fun h' tk c kp oF => ?_
    have keep : ∀ b o, b ≠ A0 → b ≠ kS → s'.heap.get? b = some o → h'.get? b = some o := fun b o n1 n2 e => kp b o n1 (PySem.W.hideAll_get _ e (by simpa using n2))
    refine ⟨rfl, ?_⟩
    -- the items by keys
    have EO := PySem.W.keyedOut_each (R := fun u (b : (V × D) × D) => RelV b.1.1 u) (bs := (vs.zip xs).zip ks) (fun b => b.2.py) (rev := false) (vs := its) (out := PySem.W.sortVals (PySem.W.dataKind s'.heap (pys ks)) false kA.toList its) ?ko ?each
    case ko =>
      have e : ((vs.zip xs).zip ks).map (fun b => b.2.py) = pys ks := by
        rw [pys_map, show (fun b : (V × D) × D => b.2.py) = D.py ∘ (·.2) from rfl, ← List.map_map, List.map_snd_zip (by rw [List.length_zip]; have := rv.length; omega)]
      rw [e]
      exact ⟨s'.heap, kA.toList, al.1, rfl, hk'⟩
    case each =>
      have : ∀ {vs : List V} {xs ks : List D} {us : List Value}, vs.length = xs.length → ks.length = xs.length → Vals vs us → PySem.W.EachIs (fun u (b : (V × D) × D) => RelV b.1.1 u) us ((vs.zip xs).zip ks) := by
        intro vs xs ks us h1 h2 rv
        induction rv generalizing xs ks with
        | nil => exact .nil
        | cons a r ih =>
          cases xs with
          | nil => cases h1
          | cons x xs =>
            cases ks with
            | nil => cases h2
            | cons k ks => exact .cons a (ih (Nat.succ.inj h1) (Nat.succ.inj h2))
      exact this rs.length hkl rv
    generalize PySem.W.sortVals (PySem.W.dataKind s'.heap (pys ks)) false kA.toList its = out at EO oF
    generalize hsb : ((vs.zip xs).zip ks).mergeSort (PySem.W.dataLe false fun b : (V × D) × D => b.2.py) = sb at EO
    have ov : Vals (sb.map fun b => b.1.1) out := by
      clear oF hsb
      induction EO with
      | nil => exact .nil
      | cons a _ ih => exact .cons a ih
    have hsb2 : sb.map (fun b => b.1.2) = ((xs.zip ks).mergeSort fun a b => leD a.2 b.2).map (·.1) := by
      have e : ((vs.zip xs).zip ks).map (fun b => (b.1.2, b.2)) = xs.zip ks := by
        have : ∀ {vs : List V} {xs ks : List D}, vs.length = xs.length → ((vs.zip xs).zip ks).map (fun b => (b.1.2, b.2)) = xs.zip ks := by
          intro vs
          induction vs with
          | nil => intro xs ks h; cases xs with
            | nil => rfl
            | cons _ _ => cases h
          | cons v vs ih =>
            intro xs ks h
            cases xs with
            | nil => cases h
            | cons x xs =>
              cases ks with
              | nil => rfl
              | cons k ks => simp only [List.zip_cons_cons, List.map_cons]; rw [ih (Nat.succ.inj h)]
        exact this rs.length
      rw [← e, ← PySem.W.sort_maps (r := PySem.W.dataLe false fun b : (V × D) × D => b.2.py) (fun b : (V × D) × D => (b.1.2, b.2)) (fun a _ b _ => by rw [PySem.W.dataLe_eq]; rfl), List.map_map, ← hsb]
      rfl
    have rmem : ∀ b ∈ sb, Rep p.K F1 ι1 b.1.1 b.1.2 := fun b hb => by
      rw [← hsb] at hb
      have h1 := (List.mergeSort_perm _ _).mem_iff.mp hb
      have h2 : b.1 ∈ vs.zip xs := (List.of_mem_zip h1).1
      exact (reps_zip rs b.1 h2).le l1 m1
    have rout : Reps p.K F1 ι1 (sb.map fun b => b.1.1) (((xs.zip ks).mergeSort fun a b => leD a.2 b.2).map (·.1)) := by
      rw [← hsb2]
      clear ov hsb hsb2 EO
      induction sb with
      | nil => exact .nil
      | cons b sb ih => exact .cons (rmem b List.mem_cons_self) (ih fun c hc => rmem c (List.mem_cons_of_mem _ hc))
    generalize sb.map (fun b => b.1.1) = ws at ov rout
    have wl : ws.length ≤ sizeLine := by
      have := rout.length
      rw [List.length_map, List.length_mergeSort, List.length_zip] at this
      omega
    have lowA : ∀ b u, H1 b = some u → b ≠ A0 ∧ b ≠ kS := fun b u e => ⟨fun z => (by rw [z, pA2] at e; cases e), fun z => (by rw [z, pK2] at e; cases e)⟩
    have J9 : Inv X pins σ (upd H1 A0 (.lst ws)) { s' with heap := h', toks := tk } := by
      refine J0.step (g' := s'.gens) (d' := s'.drawn) (ch := [A0, kS]) (fun b hb => ?_) (fun b o _ _ hc e _ => keep b o (fun z => hc (by simp [z])) (fun z => hc (by simp [z])) e) (fun b o _ _ hc e _ => ⟨o.slots, keep b o (fun z => hc (by simp [z])) (fun z => hc (by simp [z])) e⟩) (fun b o hc e n => by rw [upd_ne (fun z => hc (by simp [z]))]; exact n)
        (fun b o hc e => ⟨o, keep b o (fun z => hc (by simp [z])) (fun z => hc (by simp [z])) e⟩) (fun b xs e => by rw [upd_ne (lowA b _ e).1]; exact e) (fun b o u e => by rw [upd_ne (lowA b _ e).1]; exact e) (fun b ps e => ⟨#[], by rw [upd_ne (lowA b _ e).1, e]; simp⟩) (fun m hm => ?_) (fun b u e => ?_) J0.bare
      · rcases List.mem_cons.mp hb with rfl | hb
        · exact ⟨.inr nA1, nA2, nA4, nA5⟩
        · have : b = kS := by simpa using hb
          subst this
          exact ⟨.inr nK1, nK2, nK4, nK5⟩
      · obtain ⟨o, es, ep, ho, r⟩ := hm
        exact ⟨o, es, ep, keep _ o (Ne.symm nA2) (Ne.symm nK2) ho, r⟩
      · by_cases hb : b = A0
        · subst hb
          rw [upd_same] at e; cases e
          exact ⟨wl, out, c, ov, oF⟩
        · rw [upd_ne hb] at e
          refine (J0.hok b u e).stay (fun c v hc q => ?_) (fun c q => by rw [upd_ne (lowA c _ q).1]; exact q) fun c xs q => by rw [upd_ne (lowA c _ q).1]; exact q
          rcases hc with rfl | hc
          · exact keep _ _ hb (lowA _ _ e).2 q
          · exact keep _ _ (lowA _ _ hc).1 (lowA _ _ hc).2 q
    obtain ⟨R9, f9⟩ := R1.alloc (d := .lst (((xs.zip ks).mergeSort fun a b => leD a.2 b.2).map (·.1))) (o := .lst ws) pA2 fun G g => ⟨ws, g, rout⟩
    exact ⟨.ref A0, _, J9, rfl, q A0 F1 ι1 _ R9 l1 m1 f9⟩
theorem fn_skey {kp : Pos} {pp fp : Pos} {x f : Str} (g : Good p N sc fn (k + 1) X) (gf : GoodF p k G) (hx : x = "sorted") (hg : sc.names.lookup x = some .globalImplicit) (hm : p.mg x = none) (hf : sc.names.lookup f = some .globalImplicit) (hfd : (f == ("__debug__" : Str)) = false) (h0 : isStar ea = false)
    (ha : FH p X ρ S ea (hOf a ρ S (evE G a ρ S))) : FN p X ρ S (.Call (.Name x pp) [ea] [⟨some "key", .Name f fp, kp⟩] pos) (evE G (.skey f a) ρ S) := by
  intro Pr F ι α σ H R d S' e Q q pins s I
  rw [evE] at e
  obtain ⟨⟨w, S1⟩, e1, e⟩ := Option.bind_eq_some_iff.mp e
  obtain ⟨u, e2, e⟩ := Option.bind_eq_some_iff.mp e
  obtain ⟨z, zs, rfl, ks, e3, e4, rfl⟩ : ∃ z zs, u = .lst (z :: zs) ∧ ∃ ks, keysG (fun d => G.fn (f, none) [d] S1) S1 (z :: zs) = some ks ∧ sortByD (z :: zs) ks = some d ∧ S1 = S' := by
    cases u <;> try cases e
    rename_i xs
    cases xs with
    | nil => cases e
    | cons z zs =>
      obtain ⟨ks, e3, e⟩ := Option.bind_eq_some_iff.mp e
      obtain ⟨d', e4, e5⟩ := Option.map_eq_some_iff.mp e
      cases e5
      exact ⟨z, zs, rfl, ks, e3, e4, rfl⟩
  obtain ⟨y, _, ey⟩ := (keysG_at e3).2 0 z rfl
  obtain ⟨fa, fd, prm, hfa, kp2, bd, K⟩ := gf.fn f _ _ _ ey
  have hG : Gl X x := by show X.env.scope.names.lookup x = _; rw [g.sc]; exact hg
  have hM : X.mg x = none := by rw [← hm, ← g.pg]; rfl
  have hGf : Gl X f := by show X.env.scope.names.lookup f = _; rw [g.sc]; exact hf
  have hMf : X.mg f = some (.ref fa) := by rw [← hfa, ← g.pg]; rfl
  subst hx
  refine wpAny_Call_Name_kw (ld_blt I hG hM (show bootBuiltins ("sorted" : Str) = some (.builtin "sorted") by decide +kernel) ?_ (by decide) (by decide))
  refine PyProof.Rows.callWith_kw ?_ (by rw [star_cons h0]; rfl) (by rw [star_cons h0]; rfl) rfl rfl
  rw [star_cons h0]
  show wpAny _ _ (spliced ((false, eval ea X.env) :: backTo pos (starEach [] X.env))) _ _ s
  refine Calls.spliced_cons ?_
  have wa := ha Pr F ι α σ H R w S1 e1 (fun x H' => ∃ F' ι', Rel p Pr ρ S1 F' ι' α σ H' ∧ LeH F F' ∧ LeA ι ι' ∧ HRep p F' ι' α x w) fun x F' ι' H' R' l m r => ⟨F', ι', R', l, m, r⟩
  refine thn (wa pins s I) fun u s1 hx => ?_
  obtain ⟨x, H1, I1, rx, F1, ι1, R1, l1, m1, r1⟩ := hx
  refine Calls.spliced_nil ?_
  refine PyProof.Rows.kwAll_cons ?_
  refine ld_glob I1 hGf hMf ?_ hfd
  refine PyProof.Rows.kwAll_nil ?_
  obtain ⟨l, vs, rfl, q1, q2⟩ := cv_of R1 r1 e2
  obtain rfl : u = Value.ref l := rx
  have hq1 : SqL X.K H1 l vs := by rw [g.K]; exact q1
  exact skey_core g (fun J _ R1 _ _ rv rx ey => go_fn2 (us := [_]) (vs := [_]) K bd g J (.cons rv .nil) R1 (.cons rx .nil) ey fun v F' ι' H' R' l m rr => ⟨F', ι', R', l, m, rr⟩) R1 I1 hq1 q2 e3 e4 fun c F' ι' H' R' l' m' fr => q c F' ι' H' R' (l1.trans l') (m1.trans m') fr
end
end Z

set_option Elab.async false
set_option linter.all false
set_option maxRecDepth 100000
set_option maxHeartbeats 4000000
namespace Z
open PySem PySem.Spec PyProof.Rows L2
/-! # sorted(d), max(d) of a dict whose keys are tuples -/
section
variable {p : Pg} {N : List Str} {sc : Scope} {fn : Str → Bool} {k : Nat} {X : Cx} {G : Fns} {ρ : Env'} {S : Store} {ea eb : Expr} {pos : Pos} {a b : Ex}
theorem keys_vals {es : Array DictEntry} {its : List (V × V)} {acc : Array Value} (hpl : its.length = es.size) (hpv : ∀ (j : Nat) (hj : j < es.size) (q : V × V), its[j]? = some q → RelV q.1 es[j].key ∧ RelV q.2 es[j].val)
    (hl : acc.toList.length = es.size) (ha : ∀ (i : Nat) (v : Value), acc.toList[i]? = some v → ∃ hi : i < es.size, v = es[i].key) : Vals (its.map (·.1)) acc.toList := by
  have : ∀ (l : List (V × V)) (m : List Value), l.length = m.length → (∀ (j : Nat) (q : V × V) (v : Value), l[j]? = some q → m[j]? = some v → RelV q.1 v) → Vals (l.map (·.1)) m := by
    intro l
    induction l with
    | nil => intro m e h; cases m with
      | nil => exact .nil
      | cons _ _ => cases e
    | cons q l ih =>
      intro m e h
      cases m with
      | nil => cases e
      | cons v m => exact .cons (h 0 q v rfl rfl) (ih m (Nat.succ.inj e) fun j q v h1 h2 => h (j + 1) q v (by simpa using h1) (by simpa using h2))
  refine this its acc.toList (by omega) fun j q v h1 h2 => ?_
  obtain ⟨hi, rfl⟩ := ha j v h2
  exact (hpv j hi q h1).1
theorem srt_core {Pr F H : Hp} {ι : List Addr} {α : Nat → Addr} {σ : L2.St} {pins : List (Addr × Obj)} {s : Shared} {ad : Addr} {es : Array DictEntry} {ep : Nat} {its : List (V × V)} {ds : List (D × D)} {Q : VK}
    (g : Good p N sc fn k X) (R : Rel p Pr ρ S F ι α σ H) (I : Inv X pins σ H s) (rd : RawD p s.heap F ι ad es ep its ds) (ok : okSort (ds.map (·.1)) = true)
    (q : ∀ c F' H', Rel p Pr ρ S F' ι α σ H' → LeH F F' → Fr p Pr ρ F' ι α H' c (.lst (sortD (ds.map (·.1)))) → Q (.ref c) H') :
    wpAny (model X.prog X.w) X.A (call (.builtin "sorted") [.ref ad]) (EP X pins σ Q) X.xe s := by
  have hK : X.K = p.K := g.K
  generalize hds : ds.map (·.1) = ks at *
  have okA : okAll ks = true := by unfold okSort at ok; rw [Bool.and_eq_true] at ok; exact ok.1
  obtain ⟨al, pn, dp⟩ := alikeAll_of okA
  have rk : Reps p.K F ι (its.map (·.1)) ks := by rw [← hds]; exact rd.keys
  generalize hvs : its.map (·.1) = vs at *
  refine PySem.Calls.call_function_entry kind_sorted plain_sorted entry_sorted (args_sorted1 _) ?_
  unfold Builtin.«sorted»
  refine wpAny_bind (m := checkCount "sorted" 1 1 _) (wpAny_pure ?_)
  refine wpAny_bind (PySem.W.kdu_collect (A := X.A.in1) (KdlSrc.rawDict rd.sys) (I.ok.hd g.calm) rd.raw rd.sz fun h' tk acc hk hacc => ?_)
  have hl : acc.toList.length = es.size := by rw [Array.length_toList]; exact hacc.1
  have hsz := rd.sz
  refine wpAny_bind (wpAny_newList ?_ (by rw [hl]; exact hsz))
  have I' : Inv X pins σ H { s with heap := h', toks := tk } := I.kept hk
  have newB : H h'.objs.size = none := I'.hok.fresh (Nat.le_refl _)
  have rv : Vals vs acc.toList := by
    rw [← hvs]
    exact keys_vals rd.len rd.at_ hl fun i v e => hacc.2 i v (by rw [← Array.getElem?_toList]; exact e)
  generalize acc.toList = its' at *
  obtain ⟨as, ra⟩ := Dp.readsAll I' _ _ its' (by rw [hK]; exact dps_of R.wd.sub rk pn) rv
  have hm : (vs.zip ks).map (fun b => b.2.py) = pys ks := by
    rw [pys_map, show (fun b : V × D => b.2.py) = D.py ∘ (·.2) from rfl, ← List.map_map, zip_snd rk.length]
  have hlen : (vs.zip ks).length = its'.length := by rw [List.length_zip, ← rk.length, rv.length]; omega
  have oB : (h'.push { cls := .type "list", data := .seq its'.toArray }).get? h'.objs.size = some (seqObj "list" its'.toArray 0) := Heap.get?_push_size _ rfl
  have e0 : PySem.W.EachIs (fun u (b : V × D) => RelV b.1 u) its' (vs.zip ks) := EachR rk rv
  have e1 : PySem.W.EachIs (fun u (b : V × D) => ∃ as, Reads h' u b.2.py as) its' (vs.zip ks) := EachD rk.length ra
  generalize hB : h'.objs.size = B at newB oB ⊢
  have old : ∀ b o, h'.get? b = some o → (PySem.W.sortingHeap (h'.push { cls := .type "list", data := .seq its'.toArray }) B its').get? b = some o := fun b o e => PySem.W.sortingHeap_old (fun z => by rw [z, ← hB] at e; exact absurd (Heap.lt_size e) (Nat.lt_irrefl _)) (Heap.get?_push_of_some _ e)
  have er' : PySem.W.EachIs (fun v (b : V × D) => ∃ as, Reads (PySem.W.sortingHeap (h'.push { cls := .type "list", data := .seq its'.toArray }) B its') v b.2.py as) its' (vs.zip ks) := e1.mono fun _ _ ⟨as, r⟩ => ⟨as, Reads.keeps old r⟩
  have room : ∀ b ∈ vs.zip ks, X.A.in1.in1.units + b.2.py.depth < cLine := fun b hb => by
    have hu := g.units
    have h1 : b.2.py ∈ pys ks := by rw [← hm]; exact List.mem_map_of_mem (f := fun b : V × D => b.2.py) hb
    have h2 : b.2.py.depth ≤ PyData.depthAll (pys ks) := by
      generalize pys ks = l at h1
      generalize b.2.py = z at h1
      induction l with
      | nil => cases h1
      | cons x l ih =>
        rw [PyData.depthAll]
        rcases List.mem_cons.mp h1 with e | h
        · rw [e]; exact Nat.le_max_left _ _
        · exact Nat.le_trans (ih h) (Nat.le_max_right _ _)
    show X.A.units + 1 + 1 + b.2.py.depth < cLine
    omega
  have hal : PySem.W.AllAlike ((vs.zip ks).map fun b => b.2.py) := by rw [hm]; exact al.1
  refine wpAny_bind (wpAny_holding (wpAny_call_entry_kw slot_list_sort ⟨_, oB, rfl⟩ entry_list_sort (PySem.W.list_sort_vals (A := X.A.in1.in1) (s := { s with heap := h'.push { cls := .type "list", data := .seq its'.toArray }, toks := tk }) oB
    (PySem.W.SortsAt.data (s := { s with heap := PySem.W.sortingHeap (h'.push { cls := .type "list", data := .seq its'.toArray }) B its', toks := tk }) (PySem.W.each_map (R := fun v d => ∃ as, Reads (PySem.W.sortingHeap (h'.push { cls := .type "list", data := .seq its'.toArray }) B its') v d as) (fun b : V × D => b.2.py) er') hal (by rw [hm]; exact sortable_of ok) (PySem.W.bound_map (enc := fun b : V × D => b.2.py) room)) (by omega) ?_) (args_list_sort _)))
  refine ⟨_, rfl, wpAny_pure ⟨_, rfl, ?_⟩⟩
  have eo := PySem.W.sortVals_data false e0 er' hal
  have ol := PySem.W.sortVals_length (κ := PySem.W.dataKind (PySem.W.sortingHeap (h'.push { cls := .type "list", data := .seq its'.toArray }) B its') ((vs.zip ks).map fun b => b.2.py)) (vs := its') false rfl
  generalize PySem.W.sortVals (PySem.W.dataKind (PySem.W.sortingHeap (h'.push { cls := .type "list", data := .seq its'.toArray }) B its') ((vs.zip ks).map fun b => b.2.py)) false its' its' = out at eo ol ⊢
  obtain ⟨e2, hB2⟩ := sortedHeap_at (vs := its') (out := out.toArray) oB
  have keepF : ∀ b o, h'.get? b = some o → (sortedHeap (h'.push { cls := .type "list", data := .seq its'.toArray }) B its' out.toArray).get? b = some o := fun b o e1 => by
    have lt := Heap.lt_size e1
    rw [sortedHeap_old (fun z => by rw [z, ← hB] at lt; exact Nat.lt_irrefl _ lt) (by rw [Heap.size_push]; exact Nat.lt_succ_of_lt lt)]
    exact Heap.get?_push_of_some _ e1
  have hs : ((vs.zip ks).mergeSort (PySem.W.dataLe false fun b : V × D => b.2.py)).map (·.2) = sortD ks := by
    unfold sortD
    rw [PySem.W.sort_maps (s := leD) (f := fun b : V × D => b.2), zip_snd rk.length]
    intro x _ y _
    rw [PySem.W.dataLe_eq]
    rfl
  have rl : Reps p.K F ι (((vs.zip ks).mergeSort (PySem.W.dataLe false fun b : V × D => b.2.py)).map (·.1)) (sortD ks) := by
    rw [← hs]
    exact reps_of fun b hb => reps_zip rk b ((List.mergeSort_perm _ _).mem_iff.mp hb)
  have hz2 : (((vs.zip ks).mergeSort (PySem.W.dataLe false fun b : V × D => b.2.py)).map (·.1)).length ≤ sizeLine := by
    rw [List.length_map, List.length_mergeSort, hlen]; omega
  have J := I'.laid (a := B) (o := .lst (((vs.zip ks).mergeSort (PySem.W.dataLe false fun b : V × D => b.2.py)).map (·.1))) (t' := tk) keepF (Nat.le_of_eq hB) ⟨hz2, out, e2, vals_of_each eo, hB2⟩
  obtain ⟨R9, f9⟩ := R.alloc (d := .lst (sortD ks)) (o := .lst (((vs.zip ks).mergeSort (PySem.W.dataLe false fun b : V × D => b.2.py)).map (·.1))) newB fun G g => ⟨_, g, rl⟩
  exact ⟨.ref B, _, J, rfl, q B _ _ R9 (LeH.refl _) f9⟩
theorem mx_core {Pr F H : Hp} {ι : List Addr} {α : Nat → Addr} {σ : L2.St} {pins : List (Addr × Obj)} {s : Shared} {ad : Addr} {es : Array DictEntry} {ep : Nat} {its : List (V × V)} {ds : List (D × D)} {Q : VK}
    (g : Good p N sc fn k X) (R : Rel p Pr ρ S F ι α σ H) (I : Inv X pins σ H s) (rd : RawD p s.heap F ι ad es ep its ds) {x : D} {xs : List D} (hks : ds.map (·.1) = x :: xs) (ok : okAll (x :: xs) = true) (nc : nocs (x :: xs) = true)
    (q : ∀ z, Rep p.K F ι z (maxD x xs) → Q z H) :
    wpAny (model X.prog X.w) X.A (call (.builtin "max") [.ref ad]) (EP X pins σ Q) X.xe s := by
  have hK : X.K = p.K := g.K
  have hp : X.pg p.cls p.con p.T = p := g.pg
  obtain ⟨al, pn, dp⟩ := alikeAll_of ok
  have rk : Reps p.K F ι (its.map (·.1)) (x :: xs) := by rw [← hks]; exact rd.keys
  have kat : ∀ (i : Nat) (v : Value), (∃ hi : i < es.size, v = es[i].key) ↔ (es.map (·.key))[i]? = some v := fun i v => by
    rw [Array.getElem?_map]
    constructor
    · rintro ⟨hi, rfl⟩
      rw [Array.getElem?_eq_getElem hi]; rfl
    · intro e
      obtain ⟨u, h1, rfl⟩ := Option.map_eq_some_iff.mp e
      obtain ⟨hi, rfl⟩ := Array.getElem?_eq_some_iff.mp h1
      exact ⟨hi, rfl⟩
  have rv : Vals (its.map (·.1)) (es.map (·.key)).toList := keys_vals rd.len rd.at_ (by simp) fun i v e => (kat i v).mpr (by rw [← Array.getElem?_toList]; exact e)
  obtain ⟨as, ra⟩ := Dp.readsAll I _ _ _ (by rw [hK]; exact dps_of R.wd.sub rk pn) rv
  obtain ⟨m1, m2, m3⟩ := plain_maxD xs x fun d hd => plains_mem pn d hd
  have pl : (pys xs).length = xs.length := by rw [pys_map, List.length_map]
  have hn : es.size = xs.length + 1 := by
    have h1 := rk.length
    have h2 := rd.len
    rw [List.length_map, List.length_cons] at h1
    omega
  rw [pys] at ra al dp
  have hu := g.units
  have hh := I.ok.hd g.calm
  refine PySem.call_max_walkH ?_
  obtain ⟨oI, St, hit, W, st⟩ := (KdlSrc.rawDict (prog := X.prog) (w := X.w) (ep := ep) (es := es) rd.sys).iter X.A.in1 s hh rd.raw
  refine hit _ _ ⟨s.heap.objs.size, _, _, _, es.size, _, _, s.heap, _, rfl, W.toS, st, fun b hb => ?_, by omega, fun b o e hm => ?_, fun b o e => Heap.get?_push_of_some _ e, fun i j vi vj s' Q E hk hi hj hq => PySem.W.cmpIn_gt (A := X.A.in1) ra al (by show X.A.units + 1 + _ < _; omega) i j vi vj s' Q E hk ((kat _ _).mp hi) ((kat _ _).mp hj) hq, fun v s' hP hm => ?_⟩
  · show b < (s.heap.push oI).objs.size
    rw [size_push']
    rcases List.mem_cons.mp hb with e | hb
    · rw [e]; exact Nat.lt_succ_self _
    · rw [List.mem_singleton.mp hb]; exact Nat.lt_succ_of_lt rd.raw.lt_size
  · rw [List.mem_singleton.mp hm] at e
    exact absurd (Heap.lt_size e) (Nat.lt_irrefl _)
  · have hk : ∀ b o, s.heap.get? b = some o → s'.heap.get? b = some o := fun b o e =>
      hm.heap b o (fun hI => absurd (Heap.lt_size e) (by rw [List.mem_singleton.mp hI]; exact Nat.lt_irrefl _)) (Heap.get?_push_of_some _ e)
    rw [Moved.eq_with hm]
    have hP' := (kat _ _).mp hP
    obtain ⟨bs, r, _, _, _⟩ := PySem.W.readsAll_atA ra _ v hP'
    have e1 : es.size - 1 = xs.length := by omega
    have e2 := (PySem.W.argBest_fold (fun a b => PySem.W.dataLt b a) PyData.none x.py (pys xs) xs.length (by omega)).2
    rw [← pl, List.take_length, pl] at e2
    rw [e1] at r
    have rr : Reads s'.heap v (maxD x xs).py bs := PySem.W.reads_keeps hk (by rw [m2]; unfold PySem.W.maxD; rw [← e2]; exact r)
    obtain ⟨z, z1, z2⟩ := item_is hp I R.wd.sub rk rv ok nc m3 (i := PySem.argBest (fun i j => PySem.W.dataLt ((x.py :: pys xs).getD j .none) ((x.py :: pys xs).getD i .none)) (es.size - 1)) (by rw [Array.getElem?_toList]; exact hP') rr hk
    exact ⟨z, H, I.kept hk, z1, q z z2⟩
theorem fn_sdt {pp : Pos} {x : Str} (g : Good p N sc fn k X) (hx : x = "sorted") (hg : sc.names.lookup x = some .globalImplicit) (hm : p.mg x = none) (h0 : isStar ea = false)
    (ha : FH p X ρ S ea (hOf a ρ S (evE G a ρ S))) : FN p X ρ S (.Call (.Name x pp) [ea] [] pos) (evE G (.sdt a) ρ S) := by
  intro Pr F ι α σ H R d S' e Q q pins s I
  rw [evE] at e
  obtain ⟨⟨w, S1⟩, e1, e⟩ := Option.bind_eq_some_iff.mp e
  obtain ⟨u, e2, e⟩ := Option.bind_eq_some_iff.mp e
  obtain ⟨d', e5, e6⟩ := Option.map_eq_some_iff.mp e
  cases e6
  have hG : Gl X x := by show X.env.scope.names.lookup x = _; rw [g.sc]; exact hg
  have hM : X.mg x = none := by rw [← hm, ← g.pg]; rfl
  subst hx
  refine wpAny_Call_Name_kw (ld_blt I hG hM (show bootBuiltins ("sorted" : Str) = some (.builtin "sorted") by decide +kernel) ?_ (by decide) (by decide))
  refine PyProof.Rows.callWith_builtin1 ?_ (star_cons h0) rfl
  rw [star_cons h0]
  show wpAny _ _ (spliced ((false, eval ea X.env) :: backTo pos (starEach [] X.env))) _ _ s
  refine Calls.spliced_cons ?_
  have wa := ha Pr F ι α σ H R w S1 e1 (fun x H' => ∃ F' ι', Rel p Pr ρ S1 F' ι' α σ H' ∧ LeH F F' ∧ LeA ι ι' ∧ HRep p F' ι' α x w) fun x F' ι' H' R' l m r => ⟨F', ι', R', l, m, r⟩
  refine thn (wa pins s I) fun u1 s1 hx => ?_
  obtain ⟨x, H1, I1, rx, F1, ι1, R1, l1, m1, r1⟩ := hx
  refine Calls.spliced_nil ?_
  have cv := cv_of R1 r1 e2
  cases u <;> try cases e5
  rename_i fs
  obtain ⟨ad, kvs, rfl, q1, q2, q3⟩ := cv
  obtain ⟨F2, es, ep, its, gr, rd⟩ := raw_dT (fs := fs) R1 I1 q1 ⟨q2, q3⟩
  have e5 : sortedD (fs.map fun e => dT1 e.1) = some d := e5
  unfold sortedD at e5
  split at e5
  case isFalse => cases e5
  rename_i ok
  cases e5
  obtain rfl : u1 = Value.ref ad := rx
  have hm : (fs.map fun e => (dT1 e.1, e.2)).map (·.1) = fs.map fun e => dT1 e.1 := by rw [List.map_map]; rfl
  refine srt_core g (R1.grow gr) I1 rd (by rw [hm]; exact ok) fun c F' H' R' l f => ?_
  rw [hm] at f
  exact q c F' ι1 H' R' ((l1.trans gr.f).trans l) m1 f
theorem fe_mdt {pp : Pos} {x : Str} (g : Good p N sc fn k X) (hx : x = "max") (hg : sc.names.lookup x = some .globalImplicit) (hm : p.mg x = none) (h0 : isStar ea = false)
    (ha : FH p X ρ S ea (hOf a ρ S (evE G a ρ S))) : FE p X ρ S (.Call (.Name x pp) [ea] [] pos) (evE G (.mdt a) ρ S) := by
  intro Pr F ι α σ H R d S' e Q q pins s I
  rw [evE] at e
  obtain ⟨⟨w, S1⟩, e1, e⟩ := Option.bind_eq_some_iff.mp e
  obtain ⟨u, e2, e⟩ := Option.bind_eq_some_iff.mp e
  obtain ⟨d', e5, e6⟩ := Option.map_eq_some_iff.mp e
  cases e6
  have hG : Gl X x := by show X.env.scope.names.lookup x = _; rw [g.sc]; exact hg
  have hM : X.mg x = none := by rw [← hm, ← g.pg]; rfl
  subst hx
  refine wpAny_Call_Name_kw (ld_blt I hG hM (show bootBuiltins ("max" : Str) = some (.builtin "max") by decide +kernel) ?_ (by decide) (by decide))
  refine PyProof.Rows.callWith_builtin1 ?_ (star_cons h0) rfl
  rw [star_cons h0]
  show wpAny _ _ (spliced ((false, eval ea X.env) :: backTo pos (starEach [] X.env))) _ _ s
  refine Calls.spliced_cons ?_
  have wa := ha Pr F ι α σ H R w S1 e1 (fun x H' => ∃ F' ι', Rel p Pr ρ S1 F' ι' α σ H' ∧ LeH F F' ∧ LeA ι ι' ∧ HRep p F' ι' α x w) fun x F' ι' H' R' l m r => ⟨F', ι', R', l, m, r⟩
  refine thn (wa pins s I) fun u1 s1 hx => ?_
  obtain ⟨x, H1, I1, rx, F1, ι1, R1, l1, m1, r1⟩ := hx
  refine Calls.spliced_nil ?_
  have cv := cv_of R1 r1 e2
  cases u <;> try cases e5
  rename_i fs
  obtain ⟨ad, kvs, rfl, q1, q2, q3⟩ := cv
  obtain ⟨F2, es, ep, its, gr, rd⟩ := raw_dT (fs := fs) R1 I1 q1 ⟨q2, q3⟩
  obtain rfl : u1 = Value.ref ad := rx
  have hm : (fs.map fun e => (dT1 e.1, e.2)).map (·.1) = fs.map fun e => dT1 e.1 := by rw [List.map_map]; rfl
  unfold mdtD at e5
  simp only at e5
  split at e5
  case h_2 => cases e5
  rename_i y ys hy
  split at e5
  case isFalse => cases e5
  rename_i ok
  cases e5
  rw [Bool.and_eq_true] at ok
  exact mx_core g (R1.grow gr) I1 rd (by rw [hm]; exact hy) ok.1 ok.2 fun z r => q z F2 ι1 H1 (R1.grow gr) (l1.trans gr.f) m1 r
end
end Z

set_option Elab.async false
set_option linter.all false
set_option maxRecDepth 100000
set_option maxHeartbeats 4000000
namespace Z
open PySem PySem.Spec PyProof.Rows L2
/-! # isinstance(x, str) of what is plain -/
theorem isStr_py (d : D) (h : d.plain = true) : d.py.isStr = isStrD d := by
  cases d <;> first | rfl | cases h
section
variable {p : Pg} {N : List Str} {sc : Scope} {fn : Str → Bool} {k : Nat} {X : Cx} {G : Fns} {ρ : Env'} {S : Store} {ea eb : Expr} {pos : Pos} {a b : Ex}
theorem fe_iss {pp sp : Pos} {x y : Str} (g : Good p N sc fn k X) (hx : x = "isinstance") (hy : y = "str") (hg : sc.names.lookup x = some .globalImplicit) (hm : p.mg x = none) (hg2 : sc.names.lookup y = some .globalImplicit) (hm2 : p.mg y = none) (h0 : isStar ea = false)
    (ha : FH p X ρ S ea (hOf a ρ S (evE G a ρ S))) : FE p X ρ S (.Call (.Name x pp) [ea, .Name y sp] [] pos) (evE G (.iss a) ρ S) := by
  intro Pr F ι α σ H R d S' e Q q pins s I
  rw [evE] at e
  obtain ⟨⟨w, S1⟩, e1, e⟩ := Option.bind_eq_some_iff.mp e
  obtain ⟨u, e2, e⟩ := Option.bind_eq_some_iff.mp e
  split at e
  case isFalse => cases e
  rename_i hpl
  cases e
  have hK : X.K = p.K := g.K
  have hG : Gl X x := by show X.env.scope.names.lookup x = _; rw [g.sc]; exact hg
  have hM : X.mg x = none := by rw [← hm, ← g.pg]; rfl
  have hG2 : Gl X y := by show X.env.scope.names.lookup y = _; rw [g.sc]; exact hg2
  have hM2 : X.mg y = none := by rw [← hm2, ← g.pg]; rfl
  subst hx
  subst hy
  refine wpAny_Call_Name_kw (ld_blt I hG hM (show bootBuiltins ("isinstance" : Str) = some (.builtin "isinstance") by decide +kernel) ?_ (by decide) (by decide))
  refine PyProof.Rows.callWith_builtin1 ?_ (star_cons h0) rfl
  rw [star_cons h0]
  show wpAny _ _ (spliced ((false, eval ea X.env) :: backTo pos (starEach [.Name "str" sp] X.env))) _ _ s
  refine Calls.spliced_cons ?_
  have wa := ha Pr F ι α σ H R w S1 e1 (fun x H' => ∃ F' ι', Rel p Pr ρ S1 F' ι' α σ H' ∧ LeH F F' ∧ LeA ι ι' ∧ HRep p F' ι' α x w) fun x F' ι' H' R' l m r => ⟨F', ι', R', l, m, r⟩
  refine thn (wa pins s I) fun u1 s1 hx => ?_
  obtain ⟨x, H1, I1, rx, F1, ι1, R1, l1, m1, r1⟩ := hx
  show wpAny _ _ (spliced (backTo pos ((false, eval (.Name "str" sp) X.env) :: starEach [] X.env))) _ _ s1
  refine Calls.spliced_cons ?_
  refine ld_blt I1 hG2 hM2 (show bootBuiltins ("str" : Str) = some (.type "str") by decide +kernel) ?_ (by decide) (by decide)
  refine Calls.spliced_nil ?_
  have cv := cv_of R1 r1 e2
  obtain ⟨as, rd⟩ := Dp.reads I1 _ _ _ (by rw [hK]; exact cv.dp R1.wd.sub hpl) rx
  refine PySem.W.isinstance_str_data rd fun tk _ => ?_
  rw [isStr_py u hpl]
  exact ⟨.bl _, H1, I1.kept (t' := tk) (fun b o e => e), rfl, q _ F1 ι1 H1 R1 l1 m1 (.bl _)⟩
theorem isTy_py0 (d : D) (h : d.plain = true) : d.py.isInt = isTyD 0 d := by
  cases d <;> first | rfl | cases h
theorem isTy_py1 (d : D) (h : d.plain = true) : d.py.isTuple = isTyD 1 d := by
  cases d <;> first | rfl | cases h
theorem isTy_py2 (d : D) (h : d.plain = true) : d.py.isList = isTyD 2 d := by
  cases d <;> first | rfl | cases h
def tyN : Nat → Str
  | 0 => "int"
  | 1 => "tuple"
  | _ => "list"
theorem fe_ist {pp sp : Pos} {x y : Str} {j : Nat} (g : Good p N sc fn k X) (hj : j ≤ 2) (hx : x = "isinstance") (hy : y = tyN j) (hg : sc.names.lookup x = some .globalImplicit) (hm : p.mg x = none) (hg2 : sc.names.lookup y = some .globalImplicit) (hm2 : p.mg y = none) (h0 : isStar ea = false)
    (ha : FH p X ρ S ea (hOf a ρ S (evE G a ρ S))) : FE p X ρ S (.Call (.Name x pp) [ea, .Name y sp] [] pos) (evE G (.ist j a) ρ S) := by
  intro Pr F ι α σ H R d S' e Q q pins s I
  rw [evE] at e
  obtain ⟨⟨w, S1⟩, e1, e⟩ := Option.bind_eq_some_iff.mp e
  obtain ⟨u, e2, e⟩ := Option.bind_eq_some_iff.mp e
  split at e
  case isFalse => cases e
  rename_i hpl
  cases e
  have hK : X.K = p.K := g.K
  have hG : Gl X x := by show X.env.scope.names.lookup x = _; rw [g.sc]; exact hg
  have hM : X.mg x = none := by rw [← hm, ← g.pg]; rfl
  have hG2 : Gl X y := by show X.env.scope.names.lookup y = _; rw [g.sc]; exact hg2
  have hM2 : X.mg y = none := by rw [← hm2, ← g.pg]; rfl
  subst hx
  refine wpAny_Call_Name_kw (ld_blt I hG hM (show bootBuiltins ("isinstance" : Str) = some (.builtin "isinstance") by decide +kernel) ?_ (by decide) (by decide))
  refine PyProof.Rows.callWith_builtin1 ?_ (star_cons h0) rfl
  rw [star_cons h0]
  show wpAny _ _ (spliced ((false, eval ea X.env) :: backTo pos (starEach [.Name y sp] X.env))) _ _ s
  refine Calls.spliced_cons ?_
  have wa := ha Pr F ι α σ H R w S1 e1 (fun x H' => ∃ F' ι', Rel p Pr ρ S1 F' ι' α σ H' ∧ LeH F F' ∧ LeA ι ι' ∧ HRep p F' ι' α x w) fun x F' ι' H' R' l m r => ⟨F', ι', R', l, m, r⟩
  refine thn (wa pins s I) fun u1 s1 hx => ?_
  obtain ⟨x, H1, I1, rx, F1, ι1, R1, l1, m1, r1⟩ := hx
  show wpAny _ _ (spliced (backTo pos ((false, eval (.Name y sp) X.env) :: starEach [] X.env))) _ _ s1
  refine Calls.spliced_cons ?_
  have cv := cv_of R1 r1 e2
  obtain ⟨as, rd⟩ := Dp.reads I1 _ _ _ (by rw [hK]; exact cv.dp R1.wd.sub hpl) rx
  obtain rfl | rfl | rfl : j = 0 ∨ j = 1 ∨ j = 2 := by omega
  · subst hy
    refine ld_blt I1 hG2 hM2 (show bootBuiltins ("int" : Str) = some (.type "int") by decide +kernel) ?_ (by decide) (by decide)
    refine Calls.spliced_nil ?_
    refine PySem.W.isinstance_int_data rd fun tk _ => ?_
    rw [isTy_py0 u hpl]
    exact ⟨.bl _, H1, I1.kept (t' := tk) (fun b o e => e), rfl, q _ F1 ι1 H1 R1 l1 m1 (.bl _)⟩
  · subst hy
    refine ld_blt I1 hG2 hM2 (show bootBuiltins ("tuple" : Str) = some (.type "tuple") by decide +kernel) ?_ (by decide) (by decide)
    refine Calls.spliced_nil ?_
    refine PySem.W.isinstance_tuple_data rd fun tk _ => ?_
    rw [isTy_py1 u hpl]
    exact ⟨.bl _, H1, I1.kept (t' := tk) (fun b o e => e), rfl, q _ F1 ι1 H1 R1 l1 m1 (.bl _)⟩
  · subst hy
    refine ld_blt I1 hG2 hM2 (show bootBuiltins ("list" : Str) = some (.type "list") by decide +kernel) ?_ (by decide) (by decide)
    refine Calls.spliced_nil ?_
    refine PySem.W.isinstance_list_data rd fun tk _ => ?_
    rw [isTy_py2 u hpl]
    exact ⟨.bl _, H1, I1.kept (t' := tk) (fun b o e => e), rfl, q _ F1 ι1 H1 R1 l1 m1 (.bl _)⟩
/-! # a text's join -/
theorem strsOf_reps {F : Hp} {ι : List Addr} {p : Pg} : ∀ {vs : List V} {ds : List D} {ys : List Str}, Reps p.K F ι vs ds → strsOf ds = some ys → vs = ys.map V.str
  | _, _, ys, .nil, e => by cases e; rfl
  | _, _, ys, .cons (d := d) a r, e => by
    cases d <;> try cases e
    rename_i x
    unfold strsOf at e
    obtain ⟨q, e1, e2⟩ := Option.map_eq_some_iff.mp e
    subst e2
    cases a
    rw [strsOf_reps r e1]
    rfl
theorem fe_join {x : Str} {kk : Nat} {cpos apos : Pos} (g : Good p N sc fn k X) (h0 : isStar ea = false) (hp : (apos.endLine == pos.line) = true) (ha : FH p X ρ S ea (hOf a ρ S (evE G a ρ S))) :
    FE p X ρ S (.Call (.Attribute (.Constant (.str x) kk cpos) "join" apos) [ea] [] pos) (evE G (.join x a) ρ S) := by
  intro Pr F ι α σ H R d S' e Q q
  rw [evE] at e
  obtain ⟨⟨w, S1⟩, e1, e⟩ := Option.bind_eq_some_iff.mp e
  obtain ⟨u, e2, e⟩ := Option.bind_eq_some_iff.mp e
  obtain ⟨d', e3, e4⟩ := Option.map_eq_some_iff.mp e
  cases e4
  cases u <;> try cases e3
  rename_i ds
  unfold joinD at e3
  obtain ⟨ys, e5, e6⟩ := Option.bind_eq_some_iff.mp e3
  split at e6
  case isFalse => cases e6
  rename_i hl
  cases e6
  refine wE_of (pe_join pe_str peW (by rw [star_cons h0]; rfl) rfl hp) ?_
  refine ⟨⟨x, rfl⟩, ha Pr F ι α σ H R _ _ e1 _ fun v F' ι' H' R' l m r => ?_⟩
  obtain ⟨b, vs, rfl, q1, q2⟩ := cv_of R' r e2
  have ev := strsOf_reps q2 e5
  subst ev
  exact ⟨x, b, ys, rfl, rfl, .inl (by rw [g.K]; exact q1), hl, q _ F' ι' H' R' l m (.str _)⟩
/-! # o.f += e -/
theorem fs_augf {eo : Expr} {o : Ex} {f : Str} {op : Operator} {tpos : Pos} (g : Good p N sc fn k X) (gf : FldOk p G) (ho : FE p X ρ S eo (evE G o ρ S)) (ha : ∀ S, FE p X ρ S ea (evE G a ρ S)) :
    FS p X ρ S (.AugAssign (.Attribute eo f tpos) op ea pos) (evS G (.augf o f op a) ρ S) := by
  intro Pr F ι α σ H R o' e D h
  rw [evS] at e
  obtain ⟨⟨u, S1⟩, e1, e⟩ := Option.bind_eq_some_iff.mp e
  cases u <;> try cases e
  rename_i n
  simp only at e
  split at e
  case h_2 => cases e
  rename_i C fs hc
  split at e
  case isFalse => cases e
  rename_i hf
  split at e
  case h_2 => cases e
  rename_i i hi
  obtain ⟨⟨y, S2⟩, e2, e⟩ := Option.bind_eq_some_iff.mp e
  simp only at e
  split at e
  case h_2 => cases e
  rename_i C' fs' hc' hX hE
  split at e
  case isFalse => cases e
  rename_i hCC
  subst hCC
  obtain ⟨S3, e3, e4⟩ := Option.map_eq_some_iff.mp e
  cases e4
  refine wS_of (ps_fldaug peW peW (rd := rI0 fun i j => V.int (i + j)) (fun pins s σ H x y u v Q I r1 r2 h => iop_add pins s σ H x y u v Q I r1 r2 h)) (ho Pr F ι α σ H R _ _ e1 _ fun x F1 ι1 H1 R1 l1 m1 r1 => ?_)
  obtain ⟨b, hb1, _, Ca, dx, fv, h1, h2, h3, h4⟩ := R1.wd.at hc
  have rx := r1
  cases r1 with
  | ref hn =>
    rw [hb1] at hn; cases hn
    obtain ⟨v, e5, rv⟩ := fs_lookup h3 h4 hi
    obtain ⟨c1, c2⟩ := gf.fld C' f Ca hf h1
    rw [← g.K] at c1 c2
    refine ⟨b, Ca, dx, fv, v, rfl, h2, c1, c2, e5, ha S1 Pr F1 ι1 α σ H1 R1 _ _ e2 _ fun y F2 ι2 H2 R2 l2 m2 r2 => ?_⟩
    cases rv
    cases r2
    obtain ⟨c, C2, dx2, fs2, ec, h6, h7, h8, h9, R3⟩ := setF_ok g gf R2 (rx.le l2 m2) (.int _) e3
    cases ec
    obtain ⟨b', hb', _, Ca', dx', fv', h1', h2', _, _⟩ := R2.wd.at hc'
    have rx2 := rx.le l2 m2
    cases rx2 with
    | ref hn2 =>
      rw [hb'] at hn2; cases hn2
      have ee : Ca' = Ca := Option.some.inj (h1'.symm.trans h1)
      rw [h2'] at h6
      cases h6
      rw [ee] at h2' R3
      refine ⟨_, _, rfl, rfl, ?_⟩
      exact ⟨_, _, h2', h9, h F2 ι2 α σ _ R3 (l1.trans l2) (m1.trans m2)⟩
/-! # a list's slice, new -/
theorem fn_lsl {eo : Expr} {lo hi : Option Expr} {al ah : Ar} {p2 : Pos} (g : Good p N sc fn k X) (ha : FH p X ρ S eo (hOf a ρ S (evE G a ρ S))) (hl : FO p X ρ lo (evA G al ρ)) (hh : FO p X ρ hi (evA G ah ρ)) :
    FN p X ρ S (.Subscript eo (.Slice lo hi none p2) pos) (evE G (.lsl a al ah) ρ S) := by
  intro Pr F ι α σ H R d S' e Q q
  rw [evE] at e
  obtain ⟨⟨h1, S1⟩, e1, e⟩ := Option.bind_eq_some_iff.mp e
  obtain ⟨⟨y, S2⟩, e2, e⟩ := Option.bind_eq_some_iff.mp e
  obtain ⟨⟨z, S3⟩, e3, e⟩ := Option.bind_eq_some_iff.mp e
  obtain ⟨u, e4, e⟩ := Option.bind_eq_some_iff.mp e
  obtain ⟨lo', e7, e⟩ := Option.bind_eq_some_iff.mp e
  obtain ⟨hi', e8, e⟩ := Option.bind_eq_some_iff.mp e
  obtain ⟨xs, rfl⟩ : ∃ xs, u = .lst xs := by
    cases u <;> first | exact ⟨_, rfl⟩ | cases e
  cases e
  obtain ⟨tl, pl, hl⟩ := hl
  obtain ⟨th, ph, hh⟩ := hh
  refine wE_of (pe_slice sl_list peW pl ph) (ha Pr F ι α σ H R _ _ e1 _ fun x F1 ι1 H1 R1 l1 m1 r1 => hl R1 e2 e7 _ fun F2 ι2 H2 R2 l2 m2 => hh R2 e3 e8 _ fun F3 ι3 H3 R3 l3 m3 => ?_)
  obtain ⟨b, vs, rfl, q1, q2⟩ := cv_of R3 ((r1.le l2 m2).le l3 m3) e4
  refine ⟨b, vs, rfl, by rw [g.K]; exact q1, fun c hc => ?_⟩
  obtain ⟨R4, f4⟩ := R3.alloc (d := .lst (cutL xs lo' hi')) (o := .lst (cutV vs lo' hi')) hc fun G g => ⟨_, g, q2.cut lo' hi'⟩
  exact q c F3 ι3 _ R4 ((l1.trans l2).trans l3) ((m1.trans m2).trans m3) f4
end
end Z

set_option Elab.async false
set_option linter.all false
set_option maxRecDepth 100000
set_option maxHeartbeats 4000000
namespace Z
open PySem PySem.Spec PyProof.Rows L2

/-! # plain parameters -/
theorem zip_look {us : List Value} : ∀ {ps : List Str}, ps.Nodup → us.length = ps.length → ps.filterMap (fun n => ((ps.zip us).lookup n).map fun v => (n, v)) = ps.zip us := by
  induction us with
  | nil => intro ps _ h; cases ps with | nil => rfl | cons _ _ => cases h
  | cons u us ih =>
    intro ps nd h
    cases ps with
    | nil => cases h
    | cons p ps =>
      rw [List.nodup_cons] at nd
      have h' : us.length = ps.length := by simpa using h
      rw [List.zip_cons_cons, List.filterMap_cons, List.lookup_cons_self]
      simp only [Option.map_some]
      congr 1
      have key : ∀ l : List Str, (∀ x ∈ l, x ≠ p) → l.filterMap (fun n => (List.lookup n ((p, u) :: ps.zip us)).map fun v => (n, v)) = l.filterMap (fun n => (List.lookup n (ps.zip us)).map fun v => (n, v)) := by
        intro l
        induction l with
        | nil => intro _; rfl
        | cons x l ihl =>
          intro hx
          have e : (x == p) = false := by simpa using hx x List.mem_cons_self
          rw [List.filterMap_cons, List.filterMap_cons, List.lookup_cons, e, ihl fun y hy => hx y (List.mem_cons_of_mem _ hy)]
      rw [key ps fun x hx z => nd.1 (by rw [← z]; exact hx)]
      exact ih nd.2 h'
theorem miss_nil {us : List Value} : ∀ {ps : List Str}, us.length = ps.length → ∀ n ∈ ps, ((ps.zip us).lookup n).isNone = false := by
  induction us with
  | nil => intro ps h; cases ps with | nil => intro n hn; cases hn | cons _ _ => cases h
  | cons u us ih =>
    intro ps h n hn
    cases ps with
    | nil => cases h
    | cons p ps =>
      rw [List.zip_cons_cons, List.lookup_cons]
      cases e : n == p with
      | true => rfl
      | false =>
        refine ih (by simpa using h) n ?_
        rcases List.mem_cons.mp hn with z | z
        · rw [z] at e; simp at e
        · exact z
theorem bind_plain {fd : FuncData} {as : List Arg} {ps : List Str} {us : List Value} (hp : fd.params = ⟨[], as, none, [], [], none, []⟩) (hd : fd.defaults = .none) (hn : as.map (·.arg) = ps) (nd : ps.Nodup) (hl : us.length = ps.length) : bindArgs fd ⟨us, []⟩ = pure (ps.zip us) := by
  unfold bindArgs
  have e1 : seqItems? Value.none = pure none := rfl
  have e2 : (ps.filter fun n => (List.lookup n (ps.zip us)).isNone) = [] := by
    rw [List.filter_eq_nil_iff]
    intro n hn
    rw [miss_nil hl n hn]; simp
  have e3 : ¬ (us.length > ps.length) := by omega
  have e4 := zip_look nd hl
  simp only [hp, hd, hn, e1, List.map_nil, List.nil_append, List.append_nil, List.forIn_nil, pure_bind, Option.getD_none, List.length_nil, Nat.sub_zero, List.take_length, List.drop_length, List.zip_nil_left, List.zip_nil_right, List.drop_nil, e2, List.isEmpty_nil, Bool.not_true, Bool.false_eq_true, if_false, decide_eq_false e3, Bool.false_and, e4]

def paramsB (p : Arguments) (ps : List Str) : Bool := p.posonlyargs.isEmpty && (p.vararg.isNone && (p.kwonlyargs.isEmpty && (p.kw_defaults.isEmpty && (p.kwarg.isNone && (p.defaults.isEmpty && decide (p.args.map (·.arg) = ps))))))
def scopeB (N ps : List Str) (sc : Scope) : Bool := decide (sc.kind = .function) && (!sc.isCoroutine && (!sc.isGenerator && (decide N.Nodup && (decide (N.take ps.length = ps) && ((ps.all fun x => match sc.names.lookup x with
  | some .local => true | some .cell => true
  | _ => false) && sc.names.all fun y => match y.2 with
  | .free => false
  | _ => true)))))
theorem scope_ok {N ps : List Str} {sc : Scope} (h : scopeB N ps sc = true) : FnScope N ps sc := by
  unfold scopeB at h
  simp only [Bool.and_eq_true, decide_eq_true_eq, Bool.not_eq_true'] at h
  obtain ⟨h1, h2, h3, h4, h5, h6, h7⟩ := h
  refine ⟨h1, h2, h3, h4, h5, fun x hx => ?_, fun y hy e => ?_⟩
  · have := List.all_eq_true.mp h6 x hx
    split at this
    · exact .inl (by assumption)
    · exact .inr (by assumption)
    · cases this
  · have := List.all_eq_true.mp h7 y hy
    rw [e] at this
    cases this
theorem params_ok {p : Arguments} {ps : List Str} (h : paramsB p ps = true) : ∃ as : List Arg, p = ⟨[], as, none, [], [], none, []⟩ ∧ as.map (·.arg) = ps := by
  obtain ⟨a1, a2, a3, a4, a5, a6, a7⟩ := p
  unfold paramsB at h
  simp only [Bool.and_eq_true, decide_eq_true_eq, List.isEmpty_iff, Option.isNone_iff_eq_none] at h
  obtain ⟨rfl, rfl, rfl, rfl, rfl, rfl, h⟩ := h
  exact ⟨a2, rfl, h⟩

/-! # a lambda of one parameter, its row's things -/
theorem cloFrom_none {cells : List (Str × Addr)} : ∀ {names : List (Str × NameKind)} {acc : List (Str × Addr)}, (∀ y ∈ names, y.2 ≠ .free) → cloFrom cells names acc = acc
  | [], _, _ => rfl
  | (n, k) :: r, acc, h => by
    have h1 := h _ List.mem_cons_self
    have h2 : (k == NameKind.free) = false := by cases k <;> first | rfl | exact absurd rfl h1
    unfold cloFrom
    rw [h2]
    exact cloFrom_none fun y hy => h y (List.mem_cons_of_mem _ hy)
def lamEx : List Nat → Ex
  | [i] => .idx (.var 0) (.cst (.int i))
  | [i, j] => .tup (.cons (.idx (.var 0) (.cst (.int i))) (.cons (.idx (.var 0) (.cst (.int j))) .nil))
  | _ => .var 1
theorem cont_valx (ρ ρ' : Env') (S : Store) (d : D) : cont ρ S (.val d) = cont ρ' S (.val d) := by cases d <;> rfl
theorem lamEx_ev {G : Fns} {js : List Nat} {d u y : D} {S : Store} (h : cont [] S (.val d) = some u) (e : lamD js u = some y) : evE G (lamEx js) [.fz d] S = some (y, S) := by
  have one : ∀ (i : Nat) (z : D), idxD u (.int i) = some z → evE G (.idx (.var 0) (.cst (.int i))) [.fz d] S = some (z, S) := fun i z hz => by
    rw [evE, evE]
    simp only [hOf, List.getElem?_cons_zero, Option.bind_some]
    rw [evE]
    simp only [Option.bind_some]
    rw [cont_valx _ [], h]
    simp only [Option.bind_some]
    show (idxD u (.int i)).map _ = _
    rw [hz]; rfl
  unfold lamD at e
  split at e
  · exact one _ _ e
  · obtain ⟨a, e1, e⟩ := Option.bind_eq_some_iff.mp e
    obtain ⟨b, e2, rfl⟩ := Option.map_eq_some_iff.mp e
    unfold lamEx
    rw [evE, evA, one _ _ e1]
    simp only [Option.bind_some]
    rw [evA, one _ _ e2]
    simp only [Option.bind_some]
    rw [evA]
    simp only [Option.map_some, Option.bind_some]
    rw [if_pos (by show 2 ≤ sizeLine; decide)]
  · cases e
def idxB (x : Str) (i : Nat) (e : Expr) : Bool := match e with
  | .Subscript (.Name y _) (.Constant (.int n) _ _) _ => decide (y = x) && decide (n = (i : Int))
  | _ => false
def lamB (x : Str) : List Nat → Expr → Bool
  | [i], e => idxB x i e
  | [i, j], e => (match e with
    | .Tuple [a, b] _ _ => idxB x i a && (idxB x j b && (!isStar a && !isStar b))
    | _ => false)
  | _, _ => false
section
variable {p : Pg} {N : List Str} {sc : Scope} {fn : Str → Bool} {k : Nat} {X : Cx} {G : Fns} {ρ : Env'} {S : Store} {ea eb : Expr} {pos : Pos} {a b : Ex}
theorem fe_idxB {x : Str} {i : Nat} {e : Expr} (g : Good p [x] sc fn k X) (hv : Vis sc x) (h1 : (x == ("__debug__" : Str)) = false) (h2 : (x == ("__classdict__" : Str)) = false) (h : idxB x i e = true) : FE p X ρ S e (evE G (.idx (.var 0) (.cst (.int i))) ρ S) := by
  unfold idxB at h
  split at h
  · simp only [Bool.and_eq_true, decide_eq_true_eq] at h
    obtain ⟨rfl, rfl⟩ := h
    exact fe_idx g (plain_ix rfl) (fh_var g rfl hv h1 h2) fun S => fe_cst (by simp)
  · cases h
theorem fe_lamB {x : Str} {js : List Nat} {e : Expr} (g : Good p [x] sc fn k X) (hv : Vis sc x) (h1 : (x == ("__debug__" : Str)) = false) (h2 : (x == ("__classdict__" : Str)) = false) (h : lamB x js e = true) : FE p X ρ S e (evE G (lamEx js) ρ S) := by
  unfold lamB at h
  split at h
  · exact fe_idxB g hv h1 h2 h
  · split at h
    · simp only [Bool.and_eq_true, Bool.not_eq_true'] at h
      obtain ⟨k1, k2, k3, k4⟩ := h
      exact fe_tup (fa_cons k3 (fe_idxB g hv h1 h2 k1) fun S => fa_cons k4 (fe_idxB g hv h1 h2 k2) fun S => fa_nil)
    · cases h
  · cases h
end
/-- its call -/
theorem lam_run {p : Pg} {f c' : Addr} {qual x : Str} {params : Arguments} {body : Expr} {scope : Scope} {pm ctv : Value} {r : Env' → Store → Option (D × Store)} {A : Around} {outer : List Env} {s : Shared} {H : Hp} {u : Value} {v : V} {d d' : D} {S S' : Store} {Pr F : Hp} {ι : List Addr}
    (hf : s.heap.get? f = some (PySem.W.kla_obj "<lambda>" qual params body scope [] pm c' ctv)) (hc : H c' = some (LamX.CodeO c' qual)) (sc : FnScope [x] [x] scope) (hx : ("<lam>" : Str) ≠ x)
    (hbind : bindArgs (PySem.W.kla_fn "<lambda>" qual params body scope [] pm (.ref c') ctv) ⟨[u], []⟩ = pure [(x, u)])
    (hb : ∀ X, Good p [x] scope (fun _ => true) 0 X → ∀ ρ S, FE p X ρ S body (r ρ S))
    (hdp : A.depth < recursionLimit) (hhd : A.handled = none) (hr : ∀ env, Room 0 (A.deeper env)) (hg : A.guards = some []) (e0 : Env0 p.P p.w p.K p.mg p.base A outer s H) (rv : RelV v u) (rs : Rep p.K F ι v d) (W : Wd p Pr S F ι H) (e : r [.fz d] S = some (d', S')) :
    codeAny (model p.P p.w) A (.call (.ref f) ⟨[u], []⟩) (fun q s' => ∃ u, q = .ok (.ret u) ∧ CE outer p.P p.w H s (Back p Pr F ι d' S') u s') s := by
  have lim : s.heap.NoLimit := e0.mod.nolimit.keeps fun b ob z => (e0.bs b ob z).1
  obtain ⟨⟨oc, cs, t, hoc, hdc, hvc⟩, _, _⟩ := e0.hok c' _ hc
  have kinds : ∀ y ∈ [x].zip [u], scope.names.lookup y.1 = some .local ∨ (scope.names.lookup y.1 = some .cell ∧ ((cellsFrom (s.heap.objs.size + 1) scope.names []).lookup y.1).isSome = true) := fun ⟨n, w⟩ hy =>
    (sc.par n (List.of_mem_zip hy).1).imp id fun z => ⟨z, PySem.W.cellsFrom_some _ _ _ (.inl z)⟩
  refine PySem.W.kla_callFunE hdp hf rfl sc.co sc.gen rfl ⟨c', oc, cs, t, rfl, hoc, hdc, hvc⟩ ?_
  rw [hbind]
  refine wpAny_pure (wpAny_newFunctionEnv_cells sc.kind kinds fun env he s1 xx => ?_)
  subst he
  refine ⟨lim.keeps xx.toInCall.keep, ?_⟩
  have I : Inv (cxOf CX0 p.P p.w p.K p.mg p.base [x] qual scope f (.ref c') A outer s H E0) [] (L2.start [x] [v]) H s1 := inv_start (ps := [x]) (us := [u]) sc hhd e0 rfl (.cons rv .nil) xx
  have good : Good p [x] scope (fun _ => true) 0 (cxOf CX0 p.P p.w p.K p.mg p.base [x] qual scope f (.ref c') A outer s H E0).nox := {
    pg := rfl
    calm := rfl
    hN := rfl
    nd := sc.nd
    sc := rfl
    fn := rfl
    xe := rfl
    room := hr _
    grd := hg
    lam := fun z => absurd (List.mem_singleton.mp z) hx }
  have R0 : Rel p Pr [.fz d] S F ι (fun _ => 0) (L2.start [x] [v]) H := rel_start (N := [x]) (ps := [x]) (ds := [d]) _ W (.cons rs .nil) rfl
  refine PySem.W.kla_codeExpr (wpAny_mono (hb _ good [.fz d] S Pr F ι (fun _ => 0) _ H R0 d' S' e (Back p Pr F ι d' S') (fun w F' ι' H' R' l m rr => ⟨F', ι', R'.wd, l, m, rr⟩) [] s1 (I.wish _)) (fun u2 s' hs => ?_) fun _ _ z => False.elim z)
  obtain ⟨w, H', J, ru, q⟩ := hs
  exact ⟨u2, rfl, w, H', J.unwish.os, J.unwish.bare, J.unwish.base, J.unwish.hok, ru, q⟩
section
variable {p : Pg} {N : List Str} {sc : Scope} {fn : Str → Bool} {k : Nat} {X : Cx} {G : Fns} {ρ : Env'} {S : Store} {ea eb : Expr} {pos : Pos} {a b : Ex}
/-- a lambda's making leaves all but the tables -/
theorem Rel.lam {Pr F : Hp} {ι : List Addr} {α : Nat → Addr} {σ : L2.St} {H H1 : Hp} (R : Rel p Pr ρ S F ι α σ H) (e : LamX.ExtN H H1) (t : LamX.Tabs p.T H1) : Rel p Pr ρ S F ι α σ H1 := by
  have nt : ∀ {o : HO}, ¬ TabE o → ∀ ps, o ≠ .tbl ps := fun n ps z => by subst z; exact n trivial
  exact {
    wd := {
      sub := fun b o h => by
        rcases R.wd.sub b o h with q | ⟨q1, ob, q⟩
        · exact .inl (e _ _ q fun ps z => by subst z; exact R.wd.tab.f b ps h)
        · exact .inr ⟨q1, ob, e _ _ q fun ps z => by cases z⟩
      con := R.wd.con
      len := R.wd.len
      nd := R.wd.nd
      cell := fun n c b h1 h2 => by
        obtain ⟨q1, q2⟩ := R.wd.cell n c b h1 h2
        obtain ⟨o, q3, q4⟩ := q2.nte
        exact ⟨q1, q2.le (LeH.refl _) (LeA.refl _) (by rw [e _ _ q3 (nt q4), q3])⟩
      prot := fun b o h => by
        obtain ⟨q1, q2, q3⟩ := R.wd.prot b o h
        exact ⟨e _ _ q1 fun ps z => by subst z; exact R.wd.tab.p b ps h, q2, q3⟩
      tab := ⟨t, R.wd.tab.f, R.wd.tab.p⟩ }
    fz := R.fz
    own := fun i d h => by
      obtain ⟨k1, k2, k3, k4, k5⟩ := R.own i d h
      obtain ⟨o, q3, q4⟩ := k4.nte
      exact ⟨k1, k2, k3, k4.le (LeH.refl _) (LeA.refl _) (by rw [e _ _ q3 (nt q4), q3]), k5⟩
    lng := R.lng
    inj := R.inj }
theorem fn_slam {kp lp : Pos} {pp : Pos} {x y : Str} {prm : Arguments} {body : Expr} {lsc : Scope} {js : List Nat} (g : Good p N sc fn (k + 1) X) (hx : x = "sorted") (hg : sc.names.lookup x = some .globalImplicit) (hm : p.mg x = none) (h0 : isStar ea = false)
    (hN : ("<lam>" : Str) ∈ N) (hp : paramsB prm [y] = true) (hs : scopeB [y] [y] lsc = true) (hl : lamB y js body = true) (hy : ("<lam>" : Str) ≠ y) (hv : Vis lsc y) (d1 : (y == ("__debug__" : Str)) = false) (d2 : (y == ("__classdict__" : Str)) = false)
    (ha : FH p X ρ S ea (hOf a ρ S (evE G a ρ S))) : FN p X ρ S (.Call (.Name x pp) [ea] [⟨some "key", .Lambda prm body lsc lp, kp⟩] pos) (evE G (.slam js a) ρ S) := by
  intro Pr F ι α σ H R d S' e Q q pins s I
  rw [evE] at e
  obtain ⟨⟨w, S1⟩, e1, e⟩ := Option.bind_eq_some_iff.mp e
  obtain ⟨u, e2, e⟩ := Option.bind_eq_some_iff.mp e
  obtain ⟨xs, rfl, ks, e3, e4, rfl⟩ : ∃ xs, u = .lst xs ∧ ∃ ks, keysG (fun d => (cont [] S1 (.val d)).bind fun v => (lamD js v).map fun y => (y, S1)) S1 xs = some ks ∧ sortByD xs ks = some d ∧ S1 = S' := by
    cases u <;> try cases e
    rename_i xs
    obtain ⟨ks, e3, e⟩ := Option.bind_eq_some_iff.mp e
    obtain ⟨d', e4, e5⟩ := Option.map_eq_some_iff.mp e
    cases e5
    exact ⟨xs, rfl, ks, e3, e4, rfl⟩
  have hG : Gl X x := by show X.env.scope.names.lookup x = _; rw [g.sc]; exact hg
  have hM : X.mg x = none := by rw [← hm, ← g.pg]; rfl
  obtain ⟨c, P, hcode, TB, hmem, hun⟩ := g.lam hN
  obtain ⟨as, rfl, hpn⟩ := params_ok hp
  have SC := scope_ok hs
  subst hx
  refine wpAny_Call_Name_kw (ld_blt I hG hM (show bootBuiltins ("sorted" : Str) = some (.builtin "sorted") by decide +kernel) ?_ (by decide) (by decide))
  refine PyProof.Rows.callWith_kw ?_ (by rw [star_cons h0]; rfl) (by rw [star_cons h0]; rfl) rfl rfl
  rw [star_cons h0]
  show wpAny _ _ (spliced ((false, eval ea X.env) :: backTo pos (starEach [] X.env))) _ _ s
  refine Calls.spliced_cons ?_
  have wa := ha Pr F ι α σ H R w S1 e1 (fun x H' => ∃ F' ι', Rel p Pr ρ S1 F' ι' α σ H' ∧ LeH F F' ∧ LeA ι ι' ∧ HRep p F' ι' α x w) fun x F' ι' H' R' l m r => ⟨F', ι', R', l, m, r⟩
  refine thn (wa pins s I) fun u s1 hx => ?_
  obtain ⟨x, H1, I1, rx, F1, ι1, R1, l1, m1, r1⟩ := hx
  refine Calls.spliced_nil ?_
  refine PyProof.Rows.kwAll_cons ?_
  have TB' : LamX.TabB X.base X.mg c P := by
    have := g.pg
    rw [← this] at TB
    exact TB
  refine LamX.lam_make2 I1 TB' hcode hmem hun R1.wd.tab.t rfl (fun y hy e => absurd e (SC.nofree y hy)) fun f c' pm ctv H2 s2 I2 ext tabs hobj hnone hfr hcode' => ?_
  rw [cloFrom_none SC.nofree] at hobj
  refine PyProof.Rows.kwAll_nil ?_
  have R2 := R1.lam ext tabs
  obtain ⟨l, vs, rfl, q1, q2⟩ := cv_of R2 r1 e2
  obtain rfl : u = Value.ref l := rx
  have hq1 : SqL X.K H2 l vs := by rw [g.K]; exact q1
  have hfs : f ∉ X.fs := fun z => hfr (by
    rcases I2.ok.stk with e | ⟨e, _⟩
    · rw [e]; exact z
    · rw [e]; unfold frs; rw [List.filterMap_cons]; split
      · exact z
      · exact List.mem_cons_of_mem _ z)
  have hloc : f ≠ X.env.locals := fun z => by
    obtain ⟨m, ⟨o, es, ep, e, hd, _⟩, _⟩ := I2.loc
    rw [← z, hobj] at e
    cases e
    cases hd
  have I3 : Inv X ((f, PySem.W.kla_obj "<lambda>" (X.env.qual ++ "<lambda>") ⟨[], as, none, [], [], none, []⟩ body lsc [] pm c' ctv) :: pins) σ H2 s2 := I2.pins_of fun q hq => by
    rcases List.mem_cons.mp hq with rfl | hq
    · exact ⟨hobj, hnone, hloc, hfs, fun v z => by cases z⟩
    · exact I2.pin q (List.mem_append_right _ hq)
  have cf : F1 c' = none ∨ Loose (LamX.CodeO c' (X.env.qual ++ "<lambda>")) := .inr trivial
  have nocell : ∀ (n : Nat) (c : Cell), ι1[n]? = some c' → S1[n]? = some c → ∃ d, c = .lck d := fun n cc h1 h2 => by
    obtain ⟨_, cr⟩ := R2.wd.cell n cc c' h2 h1
    obtain ⟨o, z1, z2⟩ := cr.nte
    rw [hcode'] at z1; cases z1
    exact absurd trivial z2
  have noown : ∀ j e, ρ[j]? = some (.own e) → α j ≠ c' := fun j e hj z => by
    obtain ⟨_, _, _, k4, _⟩ := R2.own j e hj
    obtain ⟨o, z1, z2⟩ := k4.nte
    rw [z, hcode'] at z1; cases z1
    exact absurd trivial z2
  have R3 := R2.guard hcode' cf nocell noown (fun ps => LamX.codeO_ne ps)
  have rm : X.A.depth + 8 < recursionLimit ∧ X.A.units + 216 < cLine := by
    have h1 := g.room.dp
    have h2 := g.room.un
    omega
  refine thn (skey_core (Q := fun v H' => ∃ c F' ι', v = .ref c ∧ Rel p (upd Pr c' (LamX.CodeO c' (X.env.qual ++ "<lambda>"))) ρ S1 F' ι' α σ H' ∧ LeH F1 F' ∧ LeA ι1 ι' ∧ Fr p (upd Pr c' (LamX.CodeO c' (X.env.qual ++ "<lambda>"))) ρ F' ι' α H' c d) g ?_ R3 I3 hq1 q2 e3 e4 fun c F' ι' H' R' l' m' fr => ⟨c, F', ι', rfl, R', l', m', fr⟩) fun u s3 hs => ?_
  · intro F4 ι4 H4 s4 pins4 v u2 x2 y2 J hpin R4 l4 m4 rv rx ey
    obtain ⟨u0, e5, e6⟩ := Option.bind_eq_some_iff.mp ey
    obtain ⟨y', e7, e8⟩ := Option.map_eq_some_iff.mp e6
    cases e8
    have hf4 := (J.pin _ (List.mem_append_right _ (hpin _ List.mem_cons_self))).1
    dsimp only at hf4
    have hc4 := (R4.wd.prot c' _ upd_same).1
    obtain ⟨cl, cn, T, rfl⟩ : ∃ cl cn T, p = X.pg cl cn T := ⟨p.cls, p.con, p.T, g.pg.symm⟩
    refine wpAny_call (codeAny_mono (lam_run (A := X.A.in1.in1) (outer := X.stack) (r := fun ρ S => evE G (lamEx js) ρ S) hf4 hc4 SC hy (bind_plain rfl rfl hpn SC.nd rfl) (fun X' g' ρ S => fe_lamB g' hv d1 d2 hl) (by show X.A.depth < _; omega) g.room.hd
      (fun env => ⟨g.room.hd, by show X.A.depth + 1 + 3 * 0 + 5 < _; omega, by show X.A.units + 1 + 1 + 3 + 16 * 0 + 200 < _; omega⟩) g.grd J.env0.in1.in1 rv rx (grd_wd R4) (lamEx_ev e5 e7)) fun r s' hr => ?_)
    obtain ⟨u3, rfl, v3, H5, os, bare, un, hok, ru, F5, ι5, W, l5, m5, rr⟩ := hr
    exact J.after ⟨v3, H5, os, bare, un, hok, ru, F5, ι5, grd_back R4 W l5 m5, l5, m5, rr⟩
  · obtain ⟨v, H5, J, rv, c2, F5, ι5, rfl, R5, l5, m5, f5⟩ := hs
    have hw : ∀ b o, Pr b = some o → upd Pr c' (LamX.CodeO c' (X.env.qual ++ "<lambda>")) b = some o := fun b o h => by
      by_cases hb : b = c'
      · subst hb
        rw [upd_same]
        have z := (R2.wd.prot b o h).1
        rw [hcode'] at z
        exact z
      · rw [upd_ne hb]; exact h
    have R6 := R5.weak hw
    refine ⟨.ref c2, H5, J.pins_of fun q hq => J.pin q (List.mem_append_right _ (List.mem_cons_of_mem _ hq)), rv, q c2 F5 ι5 H5 R6 (l1.trans l5) (m1.trans m5) ⟨f5.rep, f5.nf, f5.ni, ?_, f5.no⟩⟩
    cases z : Pr c2 with
    | none => rfl
    | some o =>
      have := f5.np
      rw [hw _ _ z] at this
      cases this
end
end Z

set_option Elab.async false
set_option linter.all false
set_option maxRecDepth 100000
set_option maxHeartbeats 4000000
namespace Z
open PySem PySem.Spec PyProof.Rows L2
/-! # sorted(set(xs)), xs pairs of small ints -/
theorem ltP_iff {p q : Int × Int} : ltP p q = true ↔ p.1 < q.1 ∨ p.1 = q.1 ∧ p.2 < q.2 := by unfold ltP; rw [decide_eq_true_eq]
theorem ltP_irr (p : Int × Int) : ltP p p = false := by unfold ltP; rw [decide_eq_false_iff_not]; omega
theorem ltP_trans {p q r : Int × Int} (a : ltP p q = true) (b : ltP q r = true) : ltP p r = true := by rw [ltP_iff] at *; omega
theorem ltP_tri {p q : Int × Int} (a : ltP p q = false) (b : p ≠ q) : ltP q p = true := by
  rw [ltP_iff]
  have a : ¬ (ltP p q = true) := by simp [a]
  rw [ltP_iff] at a
  by_cases h : p.1 = q.1
  · by_cases h2 : p.2 = q.2
    · exact absurd (Prod.ext h h2) b
    · omega
  · omega
theorem mem_insP {x y : Int × Int} : ∀ {l : List (Int × Int)}, y ∈ insP x l ↔ y = x ∨ y ∈ l
  | [] => by simp [insP]
  | z :: r => by
    unfold insP
    split
    · simp
    · split
      · rename_i h; subst h; simp
      · rw [List.mem_cons, mem_insP, List.mem_cons]
        constructor <;> (intro h; rcases h with h | h | h <;> simp [h])
theorem mem_srtP {y : Int × Int} : ∀ {l : List (Int × Int)}, y ∈ srtP l ↔ y ∈ l
  | [] => by simp [srtP]
  | x :: r => by
    show y ∈ insP x (srtP r) ↔ _
    rw [mem_insP, mem_srtP, List.mem_cons]
theorem insP_asc {x : Int × Int} : ∀ {l : List (Int × Int)}, l.Pairwise (fun a b => ltP a b = true) → (insP x l).Pairwise fun a b => ltP a b = true
  | [], _ => by simp [insP]
  | z :: r, h => by
    rw [List.pairwise_cons] at h
    unfold insP
    split
    · rename_i hx
      rw [List.pairwise_cons]
      refine ⟨fun y hy => ?_, List.pairwise_cons.mpr h⟩
      rcases List.mem_cons.mp hy with rfl | hy
      · exact hx
      · exact ltP_trans hx (h.1 y hy)
    · rename_i hx
      split
      · exact List.pairwise_cons.mpr h
      · rename_i hne
        rw [List.pairwise_cons]
        refine ⟨fun y hy => ?_, insP_asc h.2⟩
        rcases mem_insP.mp hy with rfl | hy
        · exact ltP_tri (by simpa using hx) hne
        · exact h.1 y hy
theorem srtP_asc : ∀ (l : List (Int × Int)), (srtP l).Pairwise fun a b => ltP a b = true
  | [] => .nil
  | x :: r => insP_asc (srtP_asc r)
theorem ascP_eq : ∀ {l m : List (Int × Int)}, l.Pairwise (fun a b => ltP a b = true) → m.Pairwise (fun a b => ltP a b = true) → (∀ x, x ∈ l ↔ x ∈ m) → l = m
  | [], [], _, _, _ => rfl
  | [], y :: m, _, _, h => by have := (h y).mpr List.mem_cons_self; cases this
  | x :: l, [], _, _, h => by have := (h x).mp List.mem_cons_self; cases this
  | x :: l, y :: m, hl, hm, h => by
    rw [List.pairwise_cons] at hl hm
    have e : x = y := by
      rcases List.mem_cons.mp ((h x).mp List.mem_cons_self) with e | h1
      · exact e
      · rcases List.mem_cons.mp ((h y).mpr List.mem_cons_self) with e | h2
        · exact e.symm
        · have a := ltP_trans (hm.1 _ h1) (hl.1 _ h2)
          rw [ltP_irr] at a; cases a
    subst e
    congr 1
    refine ascP_eq hl.2 hm.2 fun z => ⟨fun hz => ?_, fun hz => ?_⟩
    · rcases List.mem_cons.mp ((h z).mp (List.mem_cons_of_mem _ hz)) with e | h1
      · subst e; have := hl.1 _ hz; rw [ltP_irr] at this; cases this
      · exact h1
    · rcases List.mem_cons.mp ((h z).mpr (List.mem_cons_of_mem _ hz)) with e | h1
      · subst e; have := hm.1 _ hz; rw [ltP_irr] at this; cases this
      · exact h1
theorem pairs_ks {p : Pg} {Pr : Hp} {ρ : Env'} {S : Store} {F H : Hp} {ι : List Addr} {α : Nat → Addr} {σ : L2.St} (R : Rel p Pr ρ S F ι α σ H) : ∀ {vs : List V} {xs : List D} {prs : List (Int × Int)}, Reps p.K F ι vs xs → pairsD xs = some prs →
    ∃ ks : List (Addr × (Int × Int)), vs = ks.map (fun q => V.ref q.1) ∧ ks.map (·.2) = prs ∧ ∀ q ∈ ks, SqT p.K H q.1 [.int q.2.1, .int q.2.2] ∧ Rep p.K F ι (.ref q.1) (pairD q.2) ∧ (0 ≤ q.2.1 ∧ q.2.1 < 64 ∧ 0 ≤ q.2.2 ∧ q.2.2 < 64)
  | _, [], prs, rs, e => by cases rs; cases e; exact ⟨[], rfl, rfl, fun q h => by cases h⟩
  | _, x :: xs, prs, rs, e => by
    cases rs with
    | cons r rs =>
      unfold pairsD at e
      split at e
      · rename_i z; cases z
      · rename_i a b r' z
        cases z
        split at e
        · rename_i hb
          obtain ⟨l, e1, rfl⟩ := Option.map_eq_some_iff.mp e
          obtain ⟨ks, h1, h2, h3⟩ := pairs_ks R rs e1
          obtain ⟨ad, us, rfl, t, ru⟩ := (CV.of_rep R.wd.sub r (fun n z => by cases z) : CV p F ι H _ (.tup _))
          have hu : us = [.int a, .int b] := by
            cases ru with
            | cons r1 ru =>
              cases ru with
              | cons r2 ru => cases ru; cases r1; cases r2; rfl
          subst hu
          refine ⟨(ad, (a, b)) :: ks, by rw [h1]; rfl, by rw [List.map_cons, h2], fun q hq => ?_⟩
          rcases List.mem_cons.mp hq with rfl | hq
          · exact ⟨t.sq, r, hb⟩
          · exact h3 q hq
        · cases e
      · cases e
section
variable {p : Pg} {N : List Str} {sc : Scope} {fn : Str → Bool} {k : Nat} {X : Cx} {G : Fns} {ρ : Env'} {S : Store} {ea eb eo : Expr} {pos : Pos} {a b o : Ex}
theorem fn_sst {x y : Str} {ps ps2 pos2 : Pos} (g : Good p N sc fn k X) (hx : x = "sorted") (hy : y = "set") (gx : sc.names.lookup x = some .globalImplicit) (mx : p.mg x = none) (gy : sc.names.lookup y = some .globalImplicit) (my : p.mg y = none) (h0 : isStar ea = false)
    (ha : FH p X ρ S ea (hOf a ρ S (evE G a ρ S))) : FN p X ρ S (.Call (.Name x ps) [.Call (.Name y ps2) [ea] [] pos2] [] pos) (evE G (.sst a) ρ S) := by
  intro Pr F ι α σ H R d S' e Q q
  rw [evE] at e
  obtain ⟨⟨w, S1⟩, e1, e⟩ := Option.bind_eq_some_iff.mp e
  obtain ⟨u, e2, e⟩ := Option.bind_eq_some_iff.mp e
  obtain ⟨d', e3, e4⟩ := Option.map_eq_some_iff.mp e
  cases e4
  have GX : Gl X x := by show X.env.scope.names.lookup x = _; rw [g.sc]; exact gx
  have MX : X.mg x = none := by rw [← mx, ← g.pg]; rfl
  have GY : Gl X y := by show X.env.scope.names.lookup y = _; rw [g.sc]; exact gy
  have MY : X.mg y = none := by rw [← my, ← g.pg]; rfl
  subst hx hy
  unfold sstD at e3
  split at e3
  case h_2 => cases e3
  rename_i xs
  split at e3
  case isFalse => cases e3
  rename_i hlen
  obtain ⟨prs, e5, rfl⟩ := Option.map_eq_some_iff.mp e3
  refine wE_of (pe_callB (cr_sortedT g.calm) GX MX (by decide +kernel) (pa_cons (pe_callTy (cr_setOfT g.calm g.units) GY MY (by decide +kernel) (pa_cons (peW (e := ea)) pa_nil (star_cons h0)) (by decide) (by decide) (star_cons h0) rfl) pa_nil (star_cons rfl)) (by decide) (by decide) (star_cons rfl) rfl) ?_
  refine ha Pr F ι α σ H R _ _ e1 _ fun x F1 ι1 H1 R1 l1 m1 r1 => ?_
  obtain ⟨l, vs, rfl, q1, q2⟩ := cv_of R1 r1 e2
  obtain ⟨ks, rfl, h2, h3⟩ := pairs_ks R1 q2 e5
  have hK : X.K = p.K := g.K
  have kl : ks.length = xs.length := by rw [← q2.length, List.length_map]
  refine ⟨l, ks.map fun q => (q.1, [q.2.1, q.2.2]), rfl, ?_, fun q hq => ?_, by rw [List.length_map]; omega, fun c L hc hs hm => ?_⟩
  · rw [List.map_map, hK]; exact q1
  · obtain ⟨y, hy, rfl⟩ := List.mem_map.mp hq
    rw [hK]; exact (h3 y hy).1
  have lc : LeH H1 (upd H1 c (SetTO X.prog X.w c L)) := LeH.upd hc
  have inL : ∀ q ∈ L, ∃ y ∈ ks, q = (y.1, [y.2.1, y.2.2]) := fun q hq => by
    obtain ⟨y, hy, e⟩ := List.mem_map.mp (hs q hq)
    exact ⟨y, hy, e.symm⟩
  have sqle : ∀ {ad : Addr} {us : List V}, SqT p.K H1 ad us → SqT p.K (upd H1 c (SetTO X.prog X.w c L)) ad us := fun {ad us} h => by
    rcases h with h | h
    · refine .inl ?_
      rcases h with h | ⟨ob, h⟩
      · exact .inl (lc _ _ h)
      · exact .inr ⟨ob, lc _ _ h⟩
    · exact .inr h
  refine ⟨c, L, 2, 64, rfl, upd_same, fun q hq => ?_, by decide, fun q hq => ?_, fun L' ad pm nd few pw had => ?_⟩
  · obtain ⟨y, hy, rfl⟩ := inL q hq
    rw [hK]; exact sqle (h3 y hy).1
  · obtain ⟨y, hy, rfl⟩ := inL q hq
    obtain ⟨_, _, b1, b2, b3, b4⟩ := h3 y hy
    refine ⟨rfl, fun m hm => ?_⟩
    rcases List.mem_cons.mp hm with rfl | hm
    · exact ⟨b1, b2⟩
    · rw [List.mem_singleton.mp hm]; exact ⟨b3, b4⟩
  have Ra := R1.grow (F' := F1) (H' := upd H1 c (SetTO X.prog X.w c L)) ⟨lc, LeH.refl _, fun b u z => .inl z, fun b ps z => z⟩
  -- the order
  have inL' : ∀ q ∈ L', ∃ y ∈ ks, q = (y.1, [y.2.1, y.2.2]) := fun q hq => inL q (pm.mem_iff.mp hq)
  obtain ⟨M, hM, hMk⟩ : ∃ M : List (Addr × (Int × Int)), L' = M.map (fun y => (y.1, [y.2.1, y.2.2])) ∧ ∀ y ∈ M, y ∈ ks := by
    clear pm nd few pw
    induction L' with
    | nil => exact ⟨[], rfl, fun y h => by cases h⟩
    | cons z L' ih =>
      obtain ⟨y, hy, rfl⟩ := inL' z List.mem_cons_self
      obtain ⟨M, h1, h2⟩ := ih fun q hq => inL' q (List.mem_cons_of_mem _ hq)
      exact ⟨y :: M, by rw [h1]; rfl, fun v hv => by
        rcases List.mem_cons.mp hv with rfl | hv
        · exact hy
        · exact h2 v hv⟩
  subst hM
  have asc : (M.map (·.2)).Pairwise fun a b => ltP a b = true := by
    rw [List.pairwise_map]
    rw [List.pairwise_map] at pw
    rw [List.map_map] at nd
    have nd2 : M.Pairwise fun a b => ([a.2.1, a.2.2] : List Int) ≠ [b.2.1, b.2.2] := by
      have := nd
      unfold List.Nodup at this
      rw [List.pairwise_map] at this
      exact this
    refine List.Pairwise.imp_of_mem (R := fun a b => TS.code 64 [a.2.1, a.2.2] ≤ TS.code 64 [b.2.1, b.2.2] ∧ ([a.2.1, a.2.2] : List Int) ≠ [b.2.1, b.2.2]) ?_ (pw.and nd2)
    rintro a b ha hb ⟨h1, h2⟩
    obtain ⟨_, _, a1, a2, a3, a4⟩ := h3 a (hMk a ha)
    obtain ⟨_, _, b1, b2, b3, b4⟩ := h3 b (hMk b hb)
    exact ltP_iff.mpr (pair_lt h1 h2 ⟨a1, a2⟩ ⟨a3, a4⟩ ⟨b1, b2⟩ ⟨b3, b4⟩)
  have same : M.map (·.2) = srtP prs := by
    refine ascP_eq asc (srtP_asc prs) fun z => ?_
    rw [mem_srtP, ← h2]
    constructor
    · intro h
      obtain ⟨y, hy, rfl⟩ := List.mem_map.mp h
      exact List.mem_map.mpr ⟨y, hMk y hy, rfl⟩
    · intro h
      obtain ⟨y, hy, rfl⟩ := List.mem_map.mp h
      obtain ⟨v, hv, e⟩ := List.mem_map.mp (hm _ (List.mem_map.mpr ⟨y, hy, rfl⟩))
      obtain ⟨t, ht, rfl⟩ := List.mem_map.mp (pm.mem_iff.mpr hv)
      refine List.mem_map.mpr ⟨t, ht, ?_⟩
      simp only [List.cons.injEq] at e
      exact Prod.ext e.1 e.2.1
  have hreps : Reps p.K F1 ι1 ((M.map fun y => (y.1, [y.2.1, y.2.2])).map fun q => V.ref q.1) ((srtP prs).map pairD) := by
    rw [← same, List.map_map, List.map_map]
    clear same asc hm hs pm nd few pw inL inL' sqle Ra
    induction M with
    | nil => exact .nil
    | cons y M ih => exact .cons (h3 y (hMk y List.mem_cons_self)).2.1 (ih fun z hz => hMk z (List.mem_cons_of_mem _ hz))
  obtain ⟨R9, f9⟩ := Ra.alloc (d := .lst ((srtP prs).map pairD)) (o := .lst ((M.map fun y => (y.1, [y.2.1, y.2.2])).map fun q => V.ref q.1)) had fun G g => ⟨_, g, hreps⟩
  exact q ad F1 ι1 _ R9 l1 m1 f9
theorem isL_of {F H : Hp} {ι : List Addr} {v : V} {o : Option D} (h : kindD o = 1) (c : ∀ d, o = some d → CV p F ι H v d) : ∃ a vs, v = .ref a ∧ SqL p.K H a vs := by
  unfold kindD at h
  split at h
  · rename_i ds
    obtain ⟨a, vs, h1, h2, _⟩ := c _ rfl
    exact ⟨a, vs, h1, h2⟩
  · cases h
  · cases h
theorem isS_of {F H : Hp} {ι : List Addr} {v : V} {o : Option D} (h : kindD o = 2) (c : ∀ d, o = some d → CV p F ι H v d) : ∃ a, v = .str a := by
  unfold kindD at h
  split at h
  · cases h
  · exact ⟨_, c _ rfl⟩
  · cases h
theorem find_first {α : Type} {f : α → Bool} : ∀ {l : List α} {i : Nat}, l.findIdx? f = some i → ∃ z, l[i]? = some z ∧ f z = true ∧ ∀ (m : Nat) (z' : α), m < i → l[m]? = some z' → f z' = false
  | [], i, h => by simp at h
  | x :: l, i, h => by
    rw [List.findIdx?_cons] at h
    split at h
    · rename_i hx
      cases h
      exact ⟨x, rfl, hx, fun m z' hm => absurd hm (Nat.not_lt_zero _)⟩
    · rename_i hx
      obtain ⟨j, hj, rfl⟩ := Option.map_eq_some_iff.mp h
      obtain ⟨z, h1, h2, h3⟩ := find_first hj
      refine ⟨z, by simpa using h1, h2, fun m z' hm hz => ?_⟩
      cases m with
      | zero => simp at hz; subst hz; simpa using hx
      | succ m => exact h3 m z' (by omega) (by simpa using hz)
theorem pys_at : ∀ {xs : List D} {i : Nat} {z : D}, xs[i]? = some z → (pys xs)[i]? = some z.py
  | x :: xs, 0, z, h => by simp at h; subst h; rw [pys]; rfl
  | x :: xs, i + 1, z, h => by rw [pys, List.getElem?_cons_succ]; exact pys_at (by simpa using h)
theorem pys_at' : ∀ {xs : List D} {i : Nat} {z : PyData}, (pys xs)[i]? = some z → ∃ d, xs[i]? = some d ∧ d.py = z
  | [], i, z, h => by rw [pys] at h; simp at h
  | x :: xs, 0, z, h => by rw [pys] at h; simp at h; exact ⟨x, rfl, h⟩
  | x :: xs, i + 1, z, h => by rw [pys, List.getElem?_cons_succ] at h; simpa using pys_at' h
/-- o.index(x) -/
theorem fe_lix {apos : Pos} (g : Good p N sc fn k X) (m : M1 X eo "index" apos eb pos) (h0 : isStar eb = false) (ho : FH p X ρ S eo (hOf o ρ S (evE G o ρ S))) (hb : ∀ S, FE p X ρ S eb (evE G b ρ S)) : FE p X ρ S (.Call (.Attribute eo "index" apos) [eb] [] pos) (evE G (.lix o b) ρ S) := by
  intro Pr F ι α σ H R d S' e Q q
  rw [evE] at e
  obtain ⟨⟨h1, S1⟩, e1, e⟩ := Option.bind_eq_some_iff.mp e
  obtain ⟨⟨y, S2⟩, e2, e⟩ := Option.bind_eq_some_iff.mp e
  split at e
  case isFalse => cases e
  rename_i hl
  obtain ⟨u, e3, e⟩ := Option.bind_eq_some_iff.mp e
  obtain ⟨d', e4, e5⟩ := Option.map_eq_some_iff.mp e
  cases e5
  simp only at hl e3
  unfold lixD at e4
  split at e4
  · rename_i xs
    rw [e3] at hl
    have hl : kindD (cont ρ S1 h1) = 1 := hl
    split at e4
    case isFalse => cases e4
    rename_i hfit
    rw [Bool.and_eq_true] at hfit
    obtain ⟨j, e6, rfl⟩ := Option.map_eq_some_iff.mp e4
    obtain ⟨z, z1, z2, z3⟩ := find_first e6
    have hu : X.A.units + 65 < cLine := by have := g.room.un; omega
    refine wE_of (pe_bm PySem.F.plainAttrs_list PySem.F.slot_list_index PySem.F.type_list_index (mt_indexD hu) (peW (e := eo)) (pa_cons (peW (e := eb)) pa_nil (star_cons h0)) m.base m.few m.line (star_cons h0) rfl) ?_
    refine ho Pr F ι α σ H R _ _ e1 _ fun x F1 ι1 H1 R1 l1 m1 r1 => ?_
    obtain ⟨a0, vs0, rfl, ty⟩ := isL_of (p := p) (F := F1) (ι := ι1) (H := H1) (v := x) hl fun d hd => cv_of R1 r1 hd
    refine ⟨.inl ⟨rfl, vs0, by rw [g.K]; exact ty⟩, ?_⟩
    refine hb S1 Pr F1 ι1 α σ H1 R1 _ _ e2 _ fun y' F2 ι2 H2 R2 l2 m2 r2 => ?_
    have hK : X.K = p.K := g.K
    have cl := (cv_of R2 (r1.le l2 m2) e3).dp R2.wd.sub (fit_plain hfit.2)
    have cy := dp_of R2.wd.sub r2 (fit_plain hfit.1)
    refine ⟨a0, y', y.py, pys xs, j, z.py, rfl, rfl, by rw [hK]; exact cl, by rw [hK]; exact cy, shaped_of hfit.2, shaped_of hfit.1, pys_at z1, z2, fun m' z' hm hz => ?_, ?_⟩
    · obtain ⟨d0, h2, rfl⟩ := pys_at' hz
      exact z3 m' d0 hm h2
    · exact q _ F2 ι2 H2 R2 (l1.trans l2) (m1.trans m2) (.int j)
  · rename_i x y hy
    simp only at hy
    split at e4
    case h_2 => cases e4
    rename_i i rest hocc
    cases e4
    refine wE_of (pe_m1 PySem.F.slot_str_index PySem.F.type_str_index mt_sindex (peW (e := eo)) (peW (e := eb)) (star_cons h0) m.base m.line) ?_
    refine ho Pr F ι α σ H R _ _ e1 _ fun x' F1 ι1 H1 R1 l1 m1 r1 => ?_
    rw [e3] at hl
    obtain ⟨x2, rfl⟩ := isS_of (p := p) (F := F1) (ι := ι1) (H := H1) (v := x') hl fun d hd => cv_of R1 r1 hd
    refine ⟨⟨x2, rfl⟩, ?_⟩
    refine hb S1 Pr F1 ι1 α σ H1 R1 _ _ e2 _ fun y' F2 ι2 H2 R2 l2 m2 r2 => ?_
    have hx := cv_of R2 (r1.le l2 m2) e3
    cases (show V.str x2 = V.str x from hx)
    subst hy
    cases r2
    exact ⟨x, y, i, rest, rfl, rfl, hocc, q _ F2 ι2 H2 R2 (l1.trans l2) (m1.trans m2) (.int i)⟩
  · cases e4
end
end Z

set_option Elab.async false
set_option linter.all false
set_option maxRecDepth 100000
set_option maxHeartbeats 4000000
namespace Z
open PySem PySem.Spec PyProof.Rows L2

/-! # the text and its short form -/
structure Tb where
  con : List (Str × GC)
  bn : List Str
structure TbOk (p : Pg) (T : Tb) : Prop where
  con : ∀ x g, (x, g) ∈ T.con → p.con x = some g.d
  bn : ∀ x, x ∈ T.bn → p.mg x = none
def dbg (x : Str) : Bool := !(x == ("__debug__" : Str)) && !(x == ("__classdict__" : Str))
def visB (sc : Scope) (x : Str) : Bool := match sc.names.lookup x with
  | some .local => true | some .cell => true | some .free => true
  | _ => false
def stB (sc : Scope) (fn : Str → Bool) (x : Str) : Bool := match sc.names.lookup x with
  | some .local => true
  | some .cell => fn x
  | _ => false
def glB (sc : Scope) (x : Str) : Bool := decide (sc.names.lookup x = some .globalImplicit) && dbg x
def cstB (c : Cst) (k : Const) : Bool := match c, k with
  | .non, .none => true | .bl b, .bool b' => decide (b = b') | .int i, .int i' => decide (i = i') | .str x, .str y => decide (x = y)
  | _, _ => false
def nmsB (N : List Str) (sc : Scope) (fn : Str → Bool) : List Nat → List Expr → Bool
  | [], [] => true
  | i :: is, e :: es => (match e with
    | .Name x _ => decide (N[i]? = some x) && stB sc fn x
    | _ => false) && nmsB N sc fn is es
  | _, _ => false
def tgB (N : List Str) (sc : Scope) (fn : Str → Bool) (t : Tg) (tg : Expr) : Bool := match t with
  | .nm i => (match tg with
    | .Name x _ => decide (N[i]? = some x) && stB sc fn x
    | _ => false)
  | .nms is => (match tg with
    | .Tuple es _ _ => nmsB N sc fn is es
    | _ => false)
def ownL (N : List Str) (t : Tg) : List (Str × Nat) := t.ix.map fun i => (N.getD i Str.empty, i)
def notSl : Expr → Bool
  | .Slice _ _ _ _ => false
  | _ => true
def isFr : Ex → Bool
  | .list _ => true
  | .dnew _ => true
  | .comp _ _ _ _ => true
  | .dcomp _ _ _ _ _ => true
  | .blt .list _ => true
  | .blt .sorted _ => true
  | .lrng _ _ => true
  | .dcst _ => true
  | .dmrg _ _ => true
  | .skey _ _ => true
  | .sitm _ => true
  | .sdt _ => true
  | .lsl _ _ _ => true
  | .slam _ _ => true
  | .sst _ => true
  | _ => false
def isB : CmpOp → Bool → Bool
  | .Is, n => !n
  | .IsNot, n => n
  | _, _ => false
def lamOk (js : List Nat) (prm : Arguments) (body : Expr) (lsc : Scope) : Bool := match prm.args.map (·.arg) with
  | [y] => paramsB prm [y] && (scopeB [y] [y] lsc && (lamB y js body && (!decide (("<lam>" : Str) = y) && (visB lsc y && dbg y))))
  | _ => false
mutual
def chkE (T : Tb) (N : List Str) : Scope → Ex → Expr → Bool
  | sc, .var i, e => (match e with
    | .Name x _ => decide (N[i]? = some x) && (visB sc x && dbg x)
    | _ => false)
  | sc, .cst c, e => (match e with
    | .Constant k _ _ => cstB c k
    | _ => false)
  | sc, .glb x g, e => (match e with
    | .Name y _ => decide (x = y) && (glB sc y && decide ((x, g) ∈ T.con))
    | _ => false)
  | sc, .bin o a b, e => (match e with
    | .BinOp ea o' eb _ => decide (o = o') && (chkE T N sc a ea && chkE T N sc b eb)
    | _ => false)
  | sc, .neg a, e => (match e with
    | .UnaryOp .USub ea _ => chkE T N sc a ea
    | _ => false)
  | sc, .not a, e => (match e with
    | .UnaryOp .Not ea _ => chkE T N sc a ea
    | _ => false)
  | sc, .and a b, e => (match e with
    | .BoolOp .And (ea :: eb :: es) pos => chkE T N sc a ea && (match es with
      | [] => chkE T N sc b eb
      | _ :: _ => chkE T N sc b (.BoolOp .And (eb :: es) pos))
    | _ => false)
  | sc, .or a b, e => (match e with
    | .BoolOp .Or (ea :: eb :: es) pos => chkE T N sc a ea && (match es with
      | [] => chkE T N sc b eb
      | _ :: _ => chkE T N sc b (.BoolOp .Or (eb :: es) pos))
    | _ => false)
  | sc, .ife c a b, e => (match e with
    | .IfExp ec ea eb _ => chkE T N sc c ec && (chkE T N sc a ea && chkE T N sc b eb)
    | _ => false)
  | sc, .cmp o a b, e => (match e with
    | .Compare ea [o'] [eb] _ => decide (o = o') && (noSet eb && (chkE T N sc a ea && chkE T N sc b eb))
    | _ => false)
  | sc, .chn o o' a b c, e => (match e with
    | .Compare ea [q, q'] [eb, ec] _ => decide (o = q) && (decide (o' = q') && (noSet ec && (chkE T N sc a ea && (chkE T N sc b eb && chkE T N sc c ec))))
    | _ => false)
  | sc, .iso n a b, e => (match e with
    | .Compare ea [o] [eb] _ => isB o n && (noSet eb && (chkE T N sc a ea && chkE T N sc b eb))
    | _ => false)
  | sc, .tup as, e => (match e with
    | .Tuple es _ _ => chkA T N sc as es
    | _ => false)
  | sc, .list as, e => (match e with
    | .List es _ => chkA T N sc as es
    | _ => false)
  | sc, .dnew _, e => (match e with
    | .Dict [] [] _ => true
    | _ => false)
  | _, .disp _ _, _ => false
  | sc, .idx a b, e => (match e with
    | .Subscript ea eb _ => notSl eb && (chkE T N sc a ea && chkE T N sc b eb)
    | _ => false)
  | sc, .sl a lo hi, e => (match e with
    | .Subscript ea (.Slice l h none _) _ => chkE T N sc a ea && (chkA T N sc lo l.toList && chkA T N sc hi h.toList)
    | _ => false)
  | sc, .lsl a lo hi, e => (match e with
    | .Subscript ea (.Slice l h none _) _ => chkE T N sc a ea && (chkA T N sc lo l.toList && chkA T N sc hi h.toList)
    | _ => false)
  | sc, .rev a, e => (match e with
    | .Subscript ea (.Slice none none (some (.UnaryOp .USub (.Constant (.int 1) _ _) _)) _) _ => chkE T N sc a ea
    | _ => false)
  | sc, .fld a f, e => (match e with
    | .Attribute ea f' _ => decide (f = f') && (noCall ea && chkE T N sc a ea)
    | _ => false)
  | sc, .call f as, e => (match e with
    | .Call (.Name x _) es [] _ => decide (f = x) && (glB sc x && chkA T N sc as es)
    | _ => false)
  | sc, .mk f as, e => (match e with
    | .Call (.Name x _) es [] _ => decide (f = x) && (glB sc x && chkA T N sc as es)
    | _ => false)
  | sc, .meth o m as, e => (match e with
    | .Call (.Attribute eo m' apos) es [] pos => decide (m = m') && (noCall eo && ((apos.endLine == pos.line) && (decide (es.length < 30) && (chkE T N sc o eo && chkA T N sc as es))))
    | _ => false)
  | sc, .blt b as, e => (match e with
    | .Call (.Name x _) (e :: es) [] _ => decide (x = b.name) && (glB sc x && (decide (x ∈ T.bn) && (decide (b ≠ .setLen) && chkA T N sc as (e :: es))))
    | _ => false)
  | sc, .get o k, e => (match e with
    | .Call (.Attribute eo m apos) [ek] [] pos => decide (m = "get") && (noCall eo && ((apos.endLine == pos.line) && (!isStar ek && (chkE T N sc o eo && chkE T N sc k ek))))
    | _ => false)
  | sc, .getd o k x, e => (match e with
    | .Call (.Attribute eo m apos) [ek, ex] [] pos => decide (m = "get") && (noCall eo && ((apos.endLine == pos.line) && (!isStar ek && (!isStar ex && (chkE T N sc o eo && (chkE T N sc k ek && chkE T N sc x ex))))))
    | _ => false)
  | sc, .comp t it c a, e => (match e with
    | .ListComp elt [⟨tg, iter, ifs, asy⟩] scope _ => decide (asy = 0) && (blkC N sc scope (ownL N t) && (tgB N (relS scope sc) (fnB scope) t tg && (noSet iter && (decide (ifs.length ≤ 1) && (chkI T N sc it tg iter && (chkA T N (relS scope sc) c ifs && chkE T N (relS scope sc) a elt))))))
    | _ => false)
  | sc, .dcomp t it c a b, e => (match e with
    | .DictComp kx vx [⟨tg, iter, ifs, asy⟩] scope _ => decide (asy = 0) && (blkC N sc scope (ownL N t) && (tgB N (relS scope sc) (fnB scope) t tg && (noSet iter && (decide (ifs.length ≤ 1) && (chkI T N sc it tg iter && (chkA T N (relS scope sc) c ifs && (chkE T N (relS scope sc) a kx && chkE T N (relS scope sc) b vx)))))))
    | _ => false)
  | sc, .mref a, e => isFr a && chkE T N sc a e
  | sc, .lrng a b, e => (match e with
    | .Call (.Name x _) [.Call (.Name y _) [ea, eb] [] _] [] _ => decide (x = "list") && (decide (y = "range") && (glB sc x && (glB sc y && (decide (x ∈ T.bn) && (decide (y ∈ T.bn) && (!isStar ea && (!isStar eb && (chkE T N sc a ea && chkE T N sc b eb))))))))
    | _ => false)
  | _, .dcst kvs, e => (match e with
    | .Dict ks vs _ => ccsB kvs ks vs
    | _ => false)
  | sc, .dmrg a b, e => (match e with
    | .Dict [none, none] [ea, eb] _ => chkE T N sc a ea && chkE T N sc b eb
    | _ => false)
  | sc, .skey f a, e => (match e with
    | .Call (.Name x _) [ea] [⟨some kw, .Name y _, _⟩] _ => decide (x = "sorted") && (decide (kw = "key") && (decide (f = y) && (glB sc x && (glB sc y && (decide (x ∈ T.bn) && (!isStar ea && chkE T N sc a ea))))))
    | _ => false)
  | sc, .sitm a, e => (match e with
    | .Call (.Name x _) [.Call (.Attribute ea m apos) [] [] cpos] [] _ => decide (x = "sorted") && (decide (m = "items") && (glB sc x && (decide (x ∈ T.bn) && (noCall ea && ((apos.endLine == cpos.line) && chkE T N sc a ea)))))
    | _ => false)
  | sc, .sdt a, e => (match e with
    | .Call (.Name x _) [ea] [] _ => decide (x = "sorted") && (glB sc x && (decide (x ∈ T.bn) && (!isStar ea && chkE T N sc a ea)))
    | _ => false)
  | sc, .mdt a, e => (match e with
    | .Call (.Name x _) [ea] [] _ => decide (x = "max") && (glB sc x && (decide (x ∈ T.bn) && (!isStar ea && chkE T N sc a ea)))
    | _ => false)
  | sc, .iss a, e => (match e with
    | .Call (.Name x _) [ea, .Name y _] [] _ => decide (x = "isinstance") && (decide (y = "str") && (glB sc x && (decide (x ∈ T.bn) && (glB sc y && (decide (y ∈ T.bn) && (!isStar ea && chkE T N sc a ea))))))
    | _ => false)
  | sc, .ist j a, e => (match e with
    | .Call (.Name x _) [ea, .Name y _] [] _ => decide (j ≤ 2) && (decide (x = "isinstance") && (decide (y = tyN j) && (glB sc x && (decide (x ∈ T.bn) && (glB sc y && (decide (y ∈ T.bn) && (!isStar ea && chkE T N sc a ea)))))))
    | _ => false)
  | sc, .join x a, e => (match e with
    | .Call (.Attribute (.Constant (.str y) _ _) m apos) [ea] [] pos => decide (x = y) && (decide (m = "join") && ((apos.endLine == pos.line) && (!isStar ea && chkE T N sc a ea)))
    | _ => false)
  | sc, .slam js a, e => (match e with
    | .Call (.Name x _) [ea] [⟨some kw, .Lambda prm body lsc _, _⟩] _ => decide (x = "sorted") && (decide (kw = "key") && (decide (("<lam>" : Str) ∈ N) && (glB sc x && (decide (x ∈ T.bn) && (!isStar ea && (lamOk js prm body lsc && chkE T N sc a ea))))))
    | _ => false)
  | sc, .sst a, e => (match e with
    | .Call (.Name x _) [.Call (.Name y _) [ea] [] _] [] _ => decide (x = "sorted") && (decide (y = "set") && (glB sc x && (glB sc y && (decide (x ∈ T.bn) && (decide (y ∈ T.bn) && (!isStar ea && chkE T N sc a ea))))))
    | _ => false)
  | sc, .lix o a, e => (match e with
    | .Call (.Attribute eo m apos) [ek] [] pos => decide (m = "index") && (noCall eo && ((apos.endLine == pos.line) && (!isStar ek && (chkE T N sc o eo && chkE T N sc a ek))))
    | _ => false)
def chkA (T : Tb) (N : List Str) : Scope → Ar → List Expr → Bool
  | sc, .nil, es => (match es with
    | [] => true
    | _ => false)
  | sc, .cons a as, es => (match es with
    | e :: es => !isStar e && (chkE T N sc a e && chkA T N sc as es)
    | _ => false)
def chkI (T : Tb) (N : List Str) : Scope → It → Expr → Expr → Bool
  | sc, .seq a, tg, e => chkE T N sc a e
  | sc, .rng a, tg, e => (match e with
    | .Call (.Name x _) [ea] [] _ => decide (x = "range") && (glB sc x && (decide (x ∈ T.bn) && (!isStar ea && chkE T N sc a ea)))
    | _ => false)
  | sc, .rng2 a b, tg, e => (match e with
    | .Call (.Name x _) [ea, eb] [] _ => decide (x = "range") && (glB sc x && (decide (x ∈ T.bn) && (!isStar ea && (!isStar eb && (chkE T N sc a ea && chkE T N sc b eb)))))
    | _ => false)
  | sc, .items a, tg, e => (match e with
    | .Call (.Attribute ea m apos) [] [] pos => decide (m = "items") && ((match tg with | .Tuple _ _ _ => true | _ => false) && (noCall ea && ((apos.endLine == pos.line) && chkE T N sc a ea)))
    | _ => false)
end

structure Ok4 (p : Pg) (X : Cx) (G : Fns) (e : Expr) (a : Ex) : Prop where
  fe : ∀ ρ S, FE p X ρ S e (evE G a ρ S)
  ft : ∀ ρ S, FT p X ρ S e (evE G a ρ S)
  fh : ∀ ρ S, FH p X ρ S e (hOf a ρ S (evE G a ρ S))
  fn : isFr a = true → ∀ ρ S, FN p X ρ S e (evE G a ρ S)
inductive OkA (p : Pg) (X : Cx) (G : Fns) : List Expr → Ar → Prop
  | nil : OkA p X G [] .nil
  | cons {e es a as} : isStar e = false → Ok4 p X G e a → OkA p X G es as → OkA p X G (e :: es) (.cons a as)
section
variable {p : Pg} {N : List Str} {sc : Scope} {fn : Str → Bool} {k : Nat} {X : Cx} {G : Fns} {T : Tb}
theorem OkA.fa {es : List Expr} {as : Ar} (h : OkA p X G es as) : ∀ ρ S, FA p X ρ S es (evA G as ρ S) := by
  induction h with
  | nil => exact fun ρ S => fa_nil
  | cons h0 h1 _ ih => exact fun ρ S => fa_cons h0 (h1.fe ρ S) fun S => ih ρ S
theorem OkA.fhs {es : List Expr} {as : Ar} (h : OkA p X G es as) : ∀ ρ S, FHs p X ρ S es (evH G as ρ S) := by
  induction h with
  | nil => exact fun ρ S => fhs_nil
  | cons h0 h1 _ ih => exact fun ρ S => fhs_cons h0 (h1.fh ρ S) fun S => ih ρ S
theorem OkA.all {es : List Expr} {as : Ar} (h : OkA p X G es as) : (es.all fun e => !isStar e) = true := by
  induction h with
  | nil => rfl
  | cons h0 _ _ ih => rw [List.all_cons, h0, ih]; rfl
theorem vis_ok {x : Str} (h : visB sc x = true) : Vis sc x := by
  unfold visB at h
  split at h
  · exact .inl (by assumption)
  · exact .inr (.inl (by assumption))
  · exact .inr (.inr (by assumption))
  · cases h
theorem st_ok {x : Str} (h : stB sc fn x = true) : Loc sc x ∧ (fn x = true ∨ sc.names.lookup x = some .local) := by
  unfold stB at h
  split at h
  · rename_i q; exact ⟨.inl q, .inr q⟩
  · rename_i q; exact ⟨.inr q, .inl h⟩
  · cases h
theorem dbg_ok {x : Str} (h : dbg x = true) : (x == ("__debug__" : Str)) = false ∧ (x == ("__classdict__" : Str)) = false := by
  unfold dbg at h
  simpa only [Bool.and_eq_true, Bool.not_eq_true'] using h
theorem gl_ok {x : Str} (h : glB sc x = true) : sc.names.lookup x = some .globalImplicit ∧ (x == ("__debug__" : Str)) = false := by
  unfold glB at h
  rw [Bool.and_eq_true, decide_eq_true_eq] at h
  exact ⟨h.1, (dbg_ok h.2).1⟩
theorem nms_ok : ∀ {is : List Nat} {es : List Expr}, nmsB N sc fn is es = true → NmOk N sc fn is es
  | [], [], _ => trivial
  | i :: is, e :: es, h => by
    simp only [nmsB, Bool.and_eq_true] at h
    obtain ⟨h1, h2⟩ := h
    split at h1
    · rw [Bool.and_eq_true, decide_eq_true_eq] at h1
      obtain ⟨l, f⟩ := st_ok h1.2
      exact ⟨h1.1, l, f, nms_ok h2⟩
    · cases h1
  | [], _ :: _, h => by cases h
  | _ :: _, [], h => by cases h
theorem tg_ok {t : Tg} {tg : Expr} (h : tgB N sc fn t tg = true) (g : Good p N sc fn k X) : FG p X t tg := by
  unfold tgB at h
  split at h
  · split at h
    · rw [Bool.and_eq_true, decide_eq_true_eq] at h
      obtain ⟨l, f⟩ := st_ok h.2
      exact fg_nm g h.1 l f
    · cases h
  · split at h
    · exact fg_nms g (nms_ok h)
    · cases h
theorem tg_nm {t : Tg} {tg : Expr} (h : tgB N sc fn t tg = true) : nmTg tg = true := by
  unfold tgB at h
  split at h
  · split at h
    · rfl
    · cases h
  · split at h
    · rfl
    · cases h
theorem is_ok {o : CmpOp} {n : Bool} (h : isB o n = true) : (o = .Is ∨ o = .IsNot) ∧ n = decide (o = .IsNot) := by
  unfold isB at h
  split at h
  · cases n <;> first | exact ⟨.inl rfl, rfl⟩ | cases h
  · cases n <;> first | exact ⟨.inr rfl, rfl⟩ | cases h
  · cases h
theorem ft_ife {ec ea eb : Expr} {c a b : Ex} {ρ : Env'} {S : Store} {pos : Pos} (hc : FT p X ρ S ec (evE G c ρ S)) (ha : ∀ S, FT p X ρ S ea (evE G a ρ S)) (hb : ∀ S, FT p X ρ S eb (evE G b ρ S)) : FT p X ρ S (.IfExp ec ea eb pos) (evE G (.ife c a b) ρ S) := by
  intro Pr F ι α σ H R d S' e Q q pins s I
  rw [evE] at e
  obtain ⟨⟨u, S1⟩, e1, e⟩ := Option.bind_eq_some_iff.mp e
  obtain ⟨i, e2, e3⟩ := Option.bind_eq_some_iff.mp e
  cases blOf_eq e2
  have hx : PySem.isTrue (.IfExp ec ea eb pos) X.env (eval (.IfExp ec ea eb pos) X.env) = (do if ← PySem.isTrue ec X.env (eval ec X.env) then PySem.isTrue ea X.env (eval ea X.env) else PySem.isTrue eb X.env (eval eb X.env)) := by simp only [PySem.isTrue]
  rw [hx]
  have w := hc Pr F ι α σ H R _ _ e1 (fun b' H' => b' = i ∧ ∃ F' ι', Rel p Pr ρ S1 F' ι' α σ H' ∧ LeH F F' ∧ LeA ι ι') fun F' ι' H' R' l m => ⟨rfl, F', ι', R', l, m⟩
  refine wpAny_bind (thn (w pins s I) fun d' s1 hd => ?_)
  obtain ⟨H1, I1, rfl, F1, ι1, R1, l1, m1⟩ := hd
  by_cases hi : d' = true
  · rw [if_pos hi] at e3 ⊢
    exact ha S1 Pr F1 ι1 α σ H1 R1 _ _ e3 _ (fun F' ι' H' R' l m => q F' ι' H' R' (l1.trans l) (m1.trans m)) pins s1 I1
  · rw [if_neg hi] at e3 ⊢
    exact hb S1 Pr F1 ι1 α σ H1 R1 _ _ e3 _ (fun F' ι' H' R' l m => q F' ι' H' R' (l1.trans l) (m1.trans m)) pins s1 I1
/-- what is no name -/
theorem Ok4.of {e : Expr} {a : Ex} (hn : ∀ i, a ≠ .var i) (he : ∀ whole, isTrue e X.env whole = (do let v ← whole; standAt e.pos; holding [v] (truthy v))) (h : ∀ ρ S, FE p X ρ S e (evE G a ρ S)) (hf : isFr a = true → ∀ ρ S, FN p X ρ S e (evE G a ρ S)) : Ok4 p X G e a :=
  ⟨h, fun ρ S => ft_val (h ρ S) he, fun ρ S => fh_of hn (h ρ S), hf⟩
theorem Ok4.ofT {e : Expr} {a : Ex} (hn : ∀ i, a ≠ .var i) (h : ∀ ρ S, FE p X ρ S e (evE G a ρ S)) (ht : ∀ ρ S, FT p X ρ S e (evE G a ρ S)) (hf : isFr a = false) : Ok4 p X G e a :=
  ⟨h, ht, fun ρ S => fh_of hn (h ρ S), fun z => by rw [hf] at z; cases z⟩
theorem fn_blt {e : Expr} {ρ : Env'} {S : Store} {pos ps : Pos} {es : List Expr} {as : Ar} {bi : Bi} {x : Str} (g : Good p N sc fn k X) (hx : x = bi.name) (hg : sc.names.lookup x = some .globalImplicit) (hm : p.mg x = none) (hb : bi = .list ∨ bi = .sorted) (h0 : isStar e = false) (hpl : (es.all fun e => !isStar e) = true) (ha : FHs p X ρ S (e :: es) (evH G as ρ S)) :
    FN p X ρ S (.Call (.Name x ps) (e :: es) [] pos) (evE G (.blt bi as) ρ S) := by
  intro Pr F ι α σ H R d S' e' Q q
  rw [evE] at e'
  obtain ⟨⟨hs, S1⟩, e1, e'⟩ := Option.bind_eq_some_iff.mp e'
  obtain ⟨us, e2, e'⟩ := Option.bind_eq_some_iff.mp e'
  obtain ⟨d', e5, e6⟩ := Option.map_eq_some_iff.mp e'
  cases e6
  have hG : Gl X x := by show X.env.scope.names.lookup x = _; rw [g.sc]; exact hg
  have hM : X.mg x = none := by rw [← hm, ← g.pg]; rfl
  have rd : tCB (wC X bi.fn) (wA X (e :: es)) σ H Q := by
    refine ha Pr F ι α σ H R _ _ e1 _ fun vs F' ι' H' R' l m rs => ?_
    refine blt_new bi hb g.pg g.calm g.units R'.wd.sub (cws_of R' rs e2) e5 fun c ws ds hd hc rr => ?_
    subst hd
    obtain ⟨R2, f2⟩ := R'.alloc (d := .lst ds) (o := .lst ws) hc fun G g => ⟨ws, g, rr⟩
    exact q c F' ι' _ R2 l m f2
  subst hx
  rcases hb with rfl | rfl
  · exact wE_of (pe_callTy wC_ok hG hM (by decide +kernel) paW (by decide) (by decide) (star_cons h0) (star_all hpl).1) rd
  · exact wE_of (pe_callB wC_ok hG hM (by decide +kernel) paW (by decide) (by decide) (star_cons h0) (star_all hpl).1) rd
theorem part_ok {o : Option Expr} {as : Ar} (h : OkA p X G o.toList as) : ∀ ρ, FO p X ρ o (evA G as ρ) := by
  cases o with
  | none => cases h with | nil => exact fun ρ => fo_none
  | some e => cases h with | cons h0 h1 h2 => cases h2 with | nil => exact fun ρ => fo_some fun S => h1.fe ρ S
theorem own_ix {t : Tg} : (ownL N t).map (·.2) = t.ix := by
  unfold ownL
  rw [List.map_map]
  exact List.map_id _
theorem sl_plain {e : Expr} (h : notSl e = true) : PlainIx e := plain_ix (by cases e <;> first | rfl | cases h)
mutual
theorem sE (tb : TbOk p T) (gf : GoodF p k G) : ∀ (a : Ex) {e : Expr} {sc : Scope} {fn : Str → Bool} {X : Cx}, chkE T N sc a e = true → Good p N sc fn (k + 1) X → Ok4 p X G e a
  | .var i, e, sc, fn, X, h, g => by
    unfold chkE at h; split at h
    · simp only [Bool.and_eq_true, decide_eq_true_eq] at h
      obtain ⟨h1, h2, h3⟩ := h
      obtain ⟨d1, d2⟩ := dbg_ok h3
      exact ⟨fun ρ S => fe_var g h1 (vis_ok h2) d1 d2, fun ρ S => ft_val (fe_var g h1 (vis_ok h2) d1 d2) fun _ => rfl, fun ρ S => fh_var g h1 (vis_ok h2) d1 d2, fun z => by cases z⟩
    · cases h
  | .cst c, e, sc, fn, X, h, g => by
    unfold chkE at h; split at h
    · exact .of (fun _ z => by cases z) (fun _ => rfl) (fun ρ S => fe_cst h) (fun z => by cases z)
    · cases h
  | .glb x gc, e, sc, fn, X, h, g => by
    unfold chkE at h; split at h
    · simp only [Bool.and_eq_true, decide_eq_true_eq] at h
      obtain ⟨rfl, h2, h3⟩ := h
      obtain ⟨l, d1⟩ := gl_ok h2
      exact .of (fun _ z => by cases z) (fun _ => rfl) (fun ρ S => fe_glb g l (tb.con _ _ h3) d1) (fun z => by cases z)
    · cases h
  | .bin o a b, e, sc, fn, X, h, g => by
    unfold chkE at h; split at h
    · simp only [Bool.and_eq_true, decide_eq_true_eq] at h
      obtain ⟨rfl, h2, h3⟩ := h
      have ha := sE tb gf a h2 g
      have hb := sE tb gf b h3 g
      exact .of (fun _ z => by cases z) (fun _ => rfl) (fun ρ S => fe_bin g (ha.fh ρ S) fun S => hb.fh ρ S) (fun z => by cases z)
    · cases h
  | .neg a, e, sc, fn, X, h, g => by
    unfold chkE at h; split at h
    · have ha := sE tb gf a h g
      exact .of (fun _ z => by cases z) (fun _ => rfl) (fun ρ S => fe_neg (ha.fe ρ S)) (fun z => by cases z)
    · cases h
  | .not a, e, sc, fn, X, h, g => by
    unfold chkE at h; split at h
    · have ha := sE tb gf a h g
      exact .ofT (fun _ z => by cases z) (fun ρ S => fe_not (ha.fe ρ S)) (fun ρ S => ft_not (ha.ft ρ S)) rfl
    · cases h
  | .and a b, e, sc, fn, X, h, g => by
    unfold chkE at h; split at h
    · rw [Bool.and_eq_true] at h
      obtain ⟨h1, h2⟩ := h
      have ha := sE tb gf a h1 g
      split at h2
      · have hb := sE tb gf b h2 g
        exact .ofT (fun _ z => by cases z) (fun ρ S => fe_and (ha.fe ρ S) fun S => fe_one (hb.fe ρ S)) (fun ρ S => ft_and (ha.ft ρ S) fun S => ft_one (hb.ft ρ S)) rfl
      · have hb := sE tb gf b h2 g
        exact .ofT (fun _ z => by cases z) (fun ρ S => fe_and (ha.fe ρ S) fun S => hb.fe ρ S) (fun ρ S => ft_and (ha.ft ρ S) fun S => hb.ft ρ S) rfl
    · cases h
  | .or a b, e, sc, fn, X, h, g => by
    unfold chkE at h; split at h
    · rw [Bool.and_eq_true] at h
      obtain ⟨h1, h2⟩ := h
      have ha := sE tb gf a h1 g
      split at h2
      · have hb := sE tb gf b h2 g
        exact .ofT (fun _ z => by cases z) (fun ρ S => fe_or (ha.fe ρ S) fun S => fe_one (hb.fe ρ S)) (fun ρ S => ft_or (ha.ft ρ S) fun S => ft_one (hb.ft ρ S)) rfl
      · have hb := sE tb gf b h2 g
        exact .ofT (fun _ z => by cases z) (fun ρ S => fe_or (ha.fe ρ S) fun S => hb.fe ρ S) (fun ρ S => ft_or (ha.ft ρ S) fun S => hb.ft ρ S) rfl
    · cases h
  | .ife c a b, e, sc, fn, X, h, g => by
    unfold chkE at h; split at h
    · simp only [Bool.and_eq_true] at h
      obtain ⟨h1, h2, h3⟩ := h
      have hc := sE tb gf c h1 g
      have ha := sE tb gf a h2 g
      have hb := sE tb gf b h3 g
      exact .ofT (fun _ z => by cases z) (fun ρ S => fe_ife (hc.ft ρ S) (fun S => ha.fe ρ S) fun S => hb.fe ρ S) (fun ρ S => ft_ife (hc.ft ρ S) (fun S => ha.ft ρ S) fun S => hb.ft ρ S) rfl
    · cases h
  | .cmp o a b, e, sc, fn, X, h, g => by
    unfold chkE at h; split at h
    · simp only [Bool.and_eq_true, decide_eq_true_eq] at h
      obtain ⟨rfl, h2, h3, h4⟩ := h
      have ha := sE tb gf a h3 g
      have hb := sE tb gf b h4 g
      exact .ofT (fun _ z => by cases z) (fun ρ S => fe_cmp g (ha.fh ρ S) (fun S => hb.fh ρ S) (mark_ok h2)) (fun ρ S => ft_cmp g (ha.fh ρ S) (fun S => hb.fh ρ S) (mark_ok h2)) rfl
    · cases h
  | .chn o o' a b c, e, sc, fn, X, h, g => by
    unfold chkE at h; split at h
    · simp only [Bool.and_eq_true, decide_eq_true_eq] at h
      obtain ⟨rfl, rfl, h2, h3, h4, h5⟩ := h
      have ha := sE tb gf a h3 g
      have hb := sE tb gf b h4 g
      have hc := sE tb gf c h5 g
      exact .ofT (fun _ z => by cases z) (fun ρ S => fe_chn g (ha.fh ρ S) (fun S => hb.fh ρ S) (fun S => hc.fh ρ S) (mark_ok h2)) (fun ρ S => ft_chn g (ha.fh ρ S) (fun S => hb.fh ρ S) (fun S => hc.fh ρ S) (mark_ok h2)) rfl
    · cases h
  | .iso n a b, e, sc, fn, X, h, g => by
    unfold chkE at h; split at h
    · simp only [Bool.and_eq_true] at h
      obtain ⟨h1, h2, h3, h4⟩ := h
      obtain ⟨i1, i2⟩ := is_ok h1
      have ha := sE tb gf a h3 g
      have hb := sE tb gf b h4 g
      exact .ofT (fun _ z => by cases z) (fun ρ S => fe_iso i1 i2 (ha.fe ρ S) (fun S => hb.fe ρ S) (mark_ok h2)) (fun ρ S => ft_iso i1 i2 (ha.fe ρ S) (fun S => hb.fe ρ S) (mark_ok h2)) rfl
    · cases h
  | .tup as, e, sc, fn, X, h, g => by
    unfold chkE at h; split at h
    · have ha := sA tb gf as h g
      exact .of (fun _ z => by cases z) (fun _ => rfl) (fun ρ S => fe_tup (ha.fa ρ S)) (fun z => by cases z)
    · cases h
  | .list as, e, sc, fn, X, h, g => by
    unfold chkE at h; split at h
    · have ha := sA tb gf as h g
      exact .of (fun _ z => by cases z) (fun _ => rfl) (fun ρ S => fe_list (ha.fa ρ S)) (fun _ ρ S => fn_list (ha.fa ρ S))
    · cases h
  | .dnew t, e, sc, fn, X, h, g => by
    unfold chkE at h; split at h
    · exact .of (fun _ z => by cases z) (fun _ => rfl) (fun ρ S => fe_of_fn fn_dnew) (fun _ ρ S => fn_dnew)
    · cases h
  | .disp ks vs, e, sc, fn, X, h, g => by
    rw [chkE] at h; cases h
  | .idx a b, e, sc, fn, X, h, g => by
    unfold chkE at h; split at h
    · simp only [Bool.and_eq_true] at h
      obtain ⟨h1, h2, h3⟩ := h
      have ha := sE tb gf a h2 g
      have hb := sE tb gf b h3 g
      exact .of (fun _ z => by cases z) (fun _ => rfl) (fun ρ S => fe_idx g (sl_plain h1) (ha.fh ρ S) fun S => hb.fe ρ S) (fun z => by cases z)
    · cases h
  | .sl a lo hi, e, sc, fn, X, h, g => by
    unfold chkE at h; split at h
    · simp only [Bool.and_eq_true] at h
      obtain ⟨h1, h2, h3⟩ := h
      have ha := sE tb gf a h1 g
      have hl := sA tb gf lo h2 g
      have hh := sA tb gf hi h3 g
      exact .of (fun _ z => by cases z) (fun _ => rfl) (fun ρ S => fe_sl g (ha.fh ρ S) (part_ok hl ρ) (part_ok hh ρ)) (fun z => by cases z)
    · cases h
  | .lsl a lo hi, e, sc, fn, X, h, g => by
    unfold chkE at h; split at h
    · simp only [Bool.and_eq_true] at h
      obtain ⟨h1, h2, h3⟩ := h
      have ha := sE tb gf a h1 g
      have hl := sA tb gf lo h2 g
      have hh := sA tb gf hi h3 g
      exact .of (fun _ z => by cases z) (fun _ => rfl) (fun ρ S => fe_of_fn (fn_lsl g (ha.fh ρ S) (part_ok hl ρ) (part_ok hh ρ))) (fun _ ρ S => fn_lsl g (ha.fh ρ S) (part_ok hl ρ) (part_ok hh ρ))
    · cases h
  | .rev a, e, sc, fn, X, h, g => by
    unfold chkE at h; split at h
    · have ha := sE tb gf a h g
      exact .of (fun _ z => by cases z) (fun _ => rfl) (fun ρ S => fe_rev g (ha.fh ρ S)) (fun z => by cases z)
    · cases h
  | .fld a f, e, sc, fn, X, h, g => by
    unfold chkE at h; split at h
    · simp only [Bool.and_eq_true, decide_eq_true_eq] at h
      obtain ⟨rfl, h2, h3⟩ := h
      have ha := sE tb gf a h3 g
      exact .of (fun _ z => by cases z) (fun _ => rfl) (fun ρ S => fe_fld g gf.toFldOk (attr_ok h2) (ha.fe ρ S)) (fun z => by cases z)
    · cases h
  | .call f as, e, sc, fn, X, h, g => by
    unfold chkE at h; split at h
    · simp only [Bool.and_eq_true, decide_eq_true_eq] at h
      obtain ⟨rfl, h2, h3⟩ := h
      obtain ⟨l, d1⟩ := gl_ok h2
      have ha := sA tb gf as h3 g
      refine .of (fun _ z => by cases z) (fun _ => rfl) (fun ρ S => ?_) (fun z => by cases z)
      cases ha with
      | nil => exact fe_call0 g gf l d1
      | cons h0 h1 hr => exact fe_call g gf l d1 h0 hr.all ((OkA.cons h0 h1 hr).fa ρ S)
    · cases h
  | .mk f as, e, sc, fn, X, h, g => by
    unfold chkE at h; split at h
    · simp only [Bool.and_eq_true, decide_eq_true_eq] at h
      obtain ⟨rfl, h2, h3⟩ := h
      obtain ⟨l, d1⟩ := gl_ok h2
      have ha := sA tb gf as h3 g
      refine .of (fun _ z => by cases z) (fun _ => rfl) (fun ρ S => ?_) (fun z => by cases z)
      cases ha with
      | nil => exact fe_mk0 g gf l d1
      | cons h0 h1 hr => exact fe_mk g gf l d1 h0 hr.all ((OkA.cons h0 h1 hr).fa ρ S)
    · cases h
  | .meth o m as, e, sc, fn, X, h, g => by
    unfold chkE at h; split at h
    · simp only [Bool.and_eq_true, decide_eq_true_eq] at h
      obtain ⟨rfl, h2, h3, h4, h5, h6⟩ := h
      have ho := sE tb gf o h5 g
      have ha := sA tb gf as h6 g
      have hm := fun env => meth_ok (m := m) (env := env) h2 ha.all h4 h3
      refine .of (fun _ z => by cases z) (fun _ => rfl) (fun ρ S => ?_) (fun z => by cases z)
      cases ha with
      | nil => exact fe_meth0 g gf (hm _) (ho.fe ρ S)
      | cons h0 h1 hr => exact fe_meth g gf h0 hr.all (hm _) (ho.fe ρ S) fun S => (OkA.cons h0 h1 hr).fa ρ S
    · cases h
  | .blt b as, e, sc, fn, X, h, g => by
    unfold chkE at h; split at h
    · simp only [Bool.and_eq_true, decide_eq_true_eq] at h
      obtain ⟨h1, h2, h3, h4, h5⟩ := h
      obtain ⟨l, d1⟩ := gl_ok h2
      have ha := sA tb gf as h5 g
      cases ha with
      | cons h0 h6 hr =>
      refine .of (fun _ z => by cases z) (fun _ => rfl) (fun ρ S => fe_blt g h1 l (tb.bn _ h3) h4 h0 hr.all ((OkA.cons h0 h6 hr).fhs ρ S)) (fun z ρ S => ?_)
      exact fn_blt g h1 l (tb.bn _ h3) (by cases b <;> first | exact .inl rfl | exact .inr rfl | cases z) h0 hr.all ((OkA.cons h0 h6 hr).fhs ρ S)
    · cases h
  | .get o kx, e, sc, fn, X, h, g => by
    unfold chkE at h; split at h
    · simp only [Bool.and_eq_true, decide_eq_true_eq, Bool.not_eq_true'] at h
      obtain ⟨rfl, h2, h3, h4, h5, h6⟩ := h
      have ho := sE tb gf o h5 g
      have hk := sE tb gf kx h6 g
      exact .of (fun _ z => by cases z) (fun _ => rfl) (fun ρ S => fe_get g (m1_ok h2 h4 h3) (ho.fh ρ S) fun S => hk.fe ρ S) (fun z => by cases z)
    · cases h
  | .getd o kx x, e, sc, fn, X, h, g => by
    unfold chkE at h; split at h
    · simp only [Bool.and_eq_true, decide_eq_true_eq, Bool.not_eq_true'] at h
      obtain ⟨rfl, h2, h3, h4, h4', h5, h6, h7⟩ := h
      have ho := sE tb gf o h5 g
      have hk := sE tb gf kx h6 g
      have hx := sE tb gf x h7 g
      exact .of (fun _ z => by cases z) (fun _ => rfl) (fun ρ S => fe_getd g (m2_ok h2 h4 h4' h3) (ho.fh ρ S) (fun S => hk.fe ρ S) fun S => hx.fe ρ S) (fun z => by cases z)
    · cases h
  | .comp t it c a, e, sc, fn, X, h, g => by
    unfold chkE at h; split at h
    · simp only [Bool.and_eq_true, decide_eq_true_eq] at h
      obtain ⟨rfl, h1, h2, h3, h4, h5, h6, h7⟩ := h
      have hi := sI tb gf it h5 g
      rename_i elt tg iter ifs scope pos
      have hc : ∀ X', Good p N (relS scope sc) (fnB scope) (k + 1) X' → OkA p X' G ifs c := fun X' g' => sA tb gf c h6 g'
      have he : ∀ X', Good p N (relS scope sc) (fnB scope) (k + 1) X' → Ok4 p X' G elt a := fun X' g' => sE tb gf a h7 g'
      have fc : FC p G (Good p N (relS scope sc) (fnB scope) (k + 1)) ifs c := by
        cases c with
        | nil =>
          cases ifs with
          | nil => exact .nil
          | cons _ _ => cases h6
        | cons c1 cr =>
          cases ifs with
          | nil => cases h6
          | cons f fs =>
            cases fs with
            | cons _ _ => simp at h4
            | nil =>
              cases cr with
              | cons _ _ =>
                have h6 := (Bool.and_eq_true_iff.mp (Bool.and_eq_true_iff.mp h6).2).2
                cases h6
              | nil =>
                refine .one fun X' g' ρ S => ?_
                have q := hc X' g'
                cases q with
                | cons _ q _ => exact q.ft ρ S
      have fn_ := fun ρ S => fn_comp (pos := pos) g (hi ρ S) (blkOk_by h1) own_ix (fun X' g' => tg_ok h2 g') fc (fun X' g' ρ S => (he X' g').fe ρ S) (fold_ok h3)
      exact .of (fun _ z => by cases z) (fun _ => rfl) (fun ρ S => fe_of_fn (fn_ ρ S)) (fun _ ρ S => fn_ ρ S)
    · cases h
  | .dcomp t it c a b, e, sc, fn, X, h, g => by
    unfold chkE at h; split at h
    · simp only [Bool.and_eq_true, decide_eq_true_eq] at h
      obtain ⟨rfl, h1, h2, h3, h4, h5, h6, h7, h8⟩ := h
      have hi := sI tb gf it h5 g
      rename_i kx vx tg iter ifs scope pos
      have hc : ∀ X', Good p N (relS scope sc) (fnB scope) (k + 1) X' → OkA p X' G ifs c := fun X' g' => sA tb gf c h6 g'
      have he : ∀ X', Good p N (relS scope sc) (fnB scope) (k + 1) X' → Ok4 p X' G kx a := fun X' g' => sE tb gf a h7 g'
      have hv : ∀ X', Good p N (relS scope sc) (fnB scope) (k + 1) X' → Ok4 p X' G vx b := fun X' g' => sE tb gf b h8 g'
      have fc : FC p G (Good p N (relS scope sc) (fnB scope) (k + 1)) ifs c := by
        cases c with
        | nil =>
          cases ifs with
          | nil => exact .nil
          | cons _ _ => cases h6
        | cons c1 cr =>
          cases ifs with
          | nil => cases h6
          | cons f fs =>
            cases fs with
            | cons _ _ => simp at h4
            | nil =>
              cases cr with
              | cons _ _ =>
                have h6 := (Bool.and_eq_true_iff.mp (Bool.and_eq_true_iff.mp h6).2).2
                cases h6
              | nil =>
                refine .one fun X' g' ρ S => ?_
                have q := hc X' g'
                cases q with
                | cons _ q _ => exact q.ft ρ S
      have fn_ := fun ρ S => fn_dcomp (pos := pos) g (hi ρ S) (blkOk_by h1) own_ix (fun X' g' => tg_ok h2 g') fc (fun X' g' ρ S => (he X' g').fe ρ S) (fun X' g' ρ S => (hv X' g').fe ρ S) (fold_ok h3)
      exact .of (fun _ z => by cases z) (fun _ => rfl) (fun ρ S => fe_of_fn (fn_ ρ S)) (fun _ ρ S => fn_ ρ S)
    · cases h
  | .lrng a b, e, sc, fn, X, h, g => by
    unfold chkE at h; split at h
    · simp only [Bool.and_eq_true, decide_eq_true_eq, Bool.not_eq_true'] at h
      obtain ⟨h1, h2, h3, h4, h5, h6, h7, h8, h9, h10⟩ := h
      have ha := sE tb gf a h9 g
      have hb := sE tb gf b h10 g
      exact .of (fun _ z => by cases z) (fun _ => rfl) (fun ρ S => fe_of_fn (fn_lrng (G := G) (ρ := ρ) (S := S) g h1 h2 (gl_ok h3).1 (tb.bn _ h5) (gl_ok h4).1 (tb.bn _ h6) h7 h8 (ha.fe ρ S) fun S => hb.fe ρ S)) (fun _ ρ S => fn_lrng (G := G) (ρ := ρ) (S := S) g h1 h2 (gl_ok h3).1 (tb.bn _ h5) (gl_ok h4).1 (tb.bn _ h6) h7 h8 (ha.fe ρ S) fun S => hb.fe ρ S)
    · cases h
  | .dcst kvs, e, sc, fn, X, h, g => by
    unfold chkE at h; split at h
    · exact .of (fun _ z => by cases z) (fun _ => rfl) (fun ρ S => fe_of_fn (fn_dcst h)) (fun _ ρ S => fn_dcst h)
    · cases h
  | .dmrg a b, e, sc, fn, X, h, g => by
    unfold chkE at h; split at h
    · simp only [Bool.and_eq_true] at h
      have ha := sE tb gf a h.1 g
      have hb := sE tb gf b h.2 g
      exact .of (fun _ z => by cases z) (fun _ => rfl) (fun ρ S => fe_of_fn (fn_dmrg g (fun S => ha.fh ρ S) fun S => hb.fh ρ S)) (fun _ ρ S => fn_dmrg g (fun S => ha.fh ρ S) fun S => hb.fh ρ S)
    · cases h
  | .skey f a, e, sc, fn, X, h, g => by
    unfold chkE at h; split at h
    · simp only [Bool.and_eq_true, decide_eq_true_eq, Bool.not_eq_true'] at h
      obtain ⟨h1, rfl, rfl, h4, h5, h6, h7, h8⟩ := h
      have ha := sE tb gf a h8 g
      exact .of (fun _ z => by cases z) (fun _ => rfl) (fun ρ S => fe_of_fn (fn_skey g gf h1 (gl_ok h4).1 (tb.bn _ h6) (gl_ok h5).1 (gl_ok h5).2 h7 (ha.fh ρ S))) (fun _ ρ S => fn_skey g gf h1 (gl_ok h4).1 (tb.bn _ h6) (gl_ok h5).1 (gl_ok h5).2 h7 (ha.fh ρ S))
    · cases h
  | .sitm a, e, sc, fn, X, h, g => by
    unfold chkE at h; split at h
    · simp only [Bool.and_eq_true, decide_eq_true_eq] at h
      obtain ⟨h1, rfl, h3, h4, h5, h6, h7⟩ := h
      have ha := sE tb gf a h7 g
      exact .of (fun _ z => by cases z) (fun _ => rfl) (fun ρ S => fe_of_fn (fn_sitm g h1 (gl_ok h3).1 (tb.bn _ h4) h5 h6 (ha.fh ρ S))) (fun _ ρ S => fn_sitm g h1 (gl_ok h3).1 (tb.bn _ h4) h5 h6 (ha.fh ρ S))
    · cases h
  | .sdt a, e, sc, fn, X, h, g => by
    unfold chkE at h; split at h
    · simp only [Bool.and_eq_true, decide_eq_true_eq, Bool.not_eq_true'] at h
      obtain ⟨h1, h3, h4, h5, h6⟩ := h
      have ha := sE tb gf a h6 g
      exact .of (fun _ z => by cases z) (fun _ => rfl) (fun ρ S => fe_of_fn (fn_sdt g h1 (gl_ok h3).1 (tb.bn _ h4) h5 (ha.fh ρ S))) (fun _ ρ S => fn_sdt g h1 (gl_ok h3).1 (tb.bn _ h4) h5 (ha.fh ρ S))
    · cases h
  | .mdt a, e, sc, fn, X, h, g => by
    unfold chkE at h; split at h
    · simp only [Bool.and_eq_true, decide_eq_true_eq, Bool.not_eq_true'] at h
      obtain ⟨h1, h3, h4, h5, h6⟩ := h
      have ha := sE tb gf a h6 g
      exact .of (fun _ z => by cases z) (fun _ => rfl) (fun ρ S => fe_mdt g h1 (gl_ok h3).1 (tb.bn _ h4) h5 (ha.fh ρ S)) (fun z => by cases z)
    · cases h
  | .iss a, e, sc, fn, X, h, g => by
    unfold chkE at h; split at h
    · simp only [Bool.and_eq_true, decide_eq_true_eq, Bool.not_eq_true'] at h
      obtain ⟨h1, h2, h3, h4, h5, h6, h7, h8⟩ := h
      have ha := sE tb gf a h8 g
      exact .of (fun _ z => by cases z) (fun _ => rfl) (fun ρ S => fe_iss g h1 h2 (gl_ok h3).1 (tb.bn _ h4) (gl_ok h5).1 (tb.bn _ h6) h7 (ha.fh ρ S)) (fun z => by cases z)
    · cases h
  | .ist j a, e, sc, fn, X, h, g => by
    unfold chkE at h; split at h
    · simp only [Bool.and_eq_true, decide_eq_true_eq, Bool.not_eq_true'] at h
      obtain ⟨h0, h1, h2, h3, h4, h5, h6, h7, h8⟩ := h
      have ha := sE tb gf a h8 g
      exact .of (fun _ z => by cases z) (fun _ => rfl) (fun ρ S => fe_ist g h0 h1 h2 (gl_ok h3).1 (tb.bn _ h4) (gl_ok h5).1 (tb.bn _ h6) h7 (ha.fh ρ S)) (fun z => by cases z)
    · cases h
  | .join x a, e, sc, fn, X, h, g => by
    unfold chkE at h; split at h
    · simp only [Bool.and_eq_true, decide_eq_true_eq, Bool.not_eq_true'] at h
      obtain ⟨h1, h2, h3, h4, h5⟩ := h
      subst h1
      subst h2
      have ha := sE tb gf a h5 g
      exact .of (fun _ z => by cases z) (fun _ => rfl) (fun ρ S => fe_join g h4 h3 (ha.fh ρ S)) (fun z => by cases z)
    · cases h
  | .mref a, e, sc, fn, X, h, g => by
    rw [chkE, Bool.and_eq_true] at h
    have ha := sE tb gf a h.2 g
    refine ⟨fun ρ S => fe_mref (ha.fn h.1 ρ S), fun ρ S => ?_, fun ρ S => fh_of (fun _ z => by cases z) (fe_mref (ha.fn h.1 ρ S)), fun z => by cases z⟩
    intro Pr F ι α σ H R b S' er
    exfalso
    rw [evE] at er
    obtain ⟨x, e1, e2⟩ := Option.bind_eq_some_iff.mp er
    unfold newRef at e2
    split at e2 <;> cases e2
  | .slam js a, e, sc, fn, X, h, g => by
    unfold chkE at h; split at h
    · simp only [Bool.and_eq_true, decide_eq_true_eq, Bool.not_eq_true'] at h
      obtain ⟨h1, rfl, h3, h4, h5, h6, h7, h8⟩ := h
      have ha := sE tb gf a h8 g
      unfold lamOk at h7
      split at h7
      · simp only [Bool.and_eq_true, Bool.not_eq_true', decide_eq_false_iff_not] at h7
        obtain ⟨k1, k2, k3, k4, k5, k6⟩ := h7
        obtain ⟨d1, d2⟩ := dbg_ok k6
        exact .of (fun _ z => by cases z) (fun _ => rfl) (fun ρ S => fe_of_fn (fn_slam g h1 (gl_ok h4).1 (tb.bn _ h5) h6 h3 k1 k2 k3 k4 (vis_ok k5) d1 d2 (ha.fh ρ S))) (fun _ ρ S => fn_slam g h1 (gl_ok h4).1 (tb.bn _ h5) h6 h3 k1 k2 k3 k4 (vis_ok k5) d1 d2 (ha.fh ρ S))
      · cases h7
    · cases h
  | .sst a, e, sc, fn, X, h, g => by
    unfold chkE at h; split at h
    · simp only [Bool.and_eq_true, decide_eq_true_eq, Bool.not_eq_true'] at h
      obtain ⟨h1, h2, h3, h4, h5, h6, h7, h8⟩ := h
      have ha := sE tb gf a h8 g
      exact .of (fun _ z => by cases z) (fun _ => rfl) (fun ρ S => fe_of_fn (fn_sst g h1 h2 (gl_ok h3).1 (tb.bn _ h5) (gl_ok h4).1 (tb.bn _ h6) h7 (ha.fh ρ S))) (fun _ ρ S => fn_sst g h1 h2 (gl_ok h3).1 (tb.bn _ h5) (gl_ok h4).1 (tb.bn _ h6) h7 (ha.fh ρ S))
    · cases h
  | .lix o a, e, sc, fn, X, h, g => by
    unfold chkE at h; split at h
    · simp only [Bool.and_eq_true, decide_eq_true_eq, Bool.not_eq_true'] at h
      obtain ⟨rfl, h2, h3, h4, h5, h6⟩ := h
      have ho := sE tb gf o h5 g
      have hk := sE tb gf a h6 g
      exact .of (fun _ z => by cases z) (fun _ => rfl) (fun ρ S => fe_lix g (m1_ok h2 h4 h3) h4 (ho.fh ρ S) fun S => hk.fe ρ S) (fun z => by cases z)
    · cases h
theorem sA (tb : TbOk p T) (gf : GoodF p k G) : ∀ (as : Ar) {es : List Expr} {sc : Scope} {fn : Str → Bool} {X : Cx}, chkA T N sc as es = true → Good p N sc fn (k + 1) X → OkA p X G es as
  | .nil, es, sc, fn, X, h, g => by
    unfold chkA at h; split at h
    · exact .nil
    · cases h
  | .cons a as, es, sc, fn, X, h, g => by
    unfold chkA at h; split at h
    · simp only [Bool.and_eq_true, Bool.not_eq_true'] at h
      exact .cons h.1 (sE tb gf a h.2.1 g) (sA tb gf as h.2.2 g)
    · cases h
theorem sI (tb : TbOk p T) (gf : GoodF p k G) : ∀ (it : It) {tg e : Expr} {sc : Scope} {fn : Str → Bool} {X : Cx}, chkI T N sc it tg e = true → Good p N sc fn (k + 1) X → ∀ ρ S, FI p X ρ S tg e (evI G it ρ S)
  | .seq a, tg, e, sc, fn, X, h, g => by
    rw [chkI] at h
    have ha := sE tb gf a h g
    exact fun ρ S => fi_seq g (ha.fh ρ S)
  | .rng a, tg, e, sc, fn, X, h, g => by
    unfold chkI at h; split at h
    · simp only [Bool.and_eq_true, decide_eq_true_eq, Bool.not_eq_true'] at h
      obtain ⟨rfl, h2, h3, h4, h5⟩ := h
      have ha := sE tb gf a h5 g
      exact fun ρ S => fi_rng g (gl_ok h2).1 (tb.bn _ h3) h4 fun S => ha.fe ρ S
    · cases h
  | .rng2 a b, tg, e, sc, fn, X, h, g => by
    unfold chkI at h; split at h
    · simp only [Bool.and_eq_true, decide_eq_true_eq, Bool.not_eq_true'] at h
      obtain ⟨rfl, h2, h3, h4, h5, h6, h7⟩ := h
      have ha := sE tb gf a h6 g
      have hb := sE tb gf b h7 g
      exact fun ρ S => fi_rng2 g (gl_ok h2).1 (tb.bn _ h3) h4 h5 (fun S => ha.fe ρ S) fun S => hb.fe ρ S
    · cases h
  | .items a, tg, e, sc, fn, X, h, g => by
    unfold chkI at h; split at h
    · simp only [Bool.and_eq_true, decide_eq_true_eq] at h
      obtain ⟨rfl, h2, h3, h4, h5⟩ := h
      have ha := sE tb gf a h5 g
      split at h2
      · exact fun ρ S => fi_items (attr_ok h3) h4 (ha.fh ρ S)
      · cases h2
    · cases h
end
end
end Z

set_option Elab.async false
set_option linter.all false
set_option maxRecDepth 100000
set_option maxHeartbeats 4000000
namespace Z
open PySem PySem.Spec PyProof.Rows L2

/-! # statements and their short form -/
def fnT : Str → Bool := fun _ => true
def isCo : Ex → Bool
  | .comp _ _ _ _ => true
  | _ => false
def isCoM : Ex → Bool
  | .comp _ _ _ _ => true
  | .mref (.comp _ _ _ _) => true
  | _ => false
def compTo (sc : Scope) (tg e : Expr) : Bool := match tg, e with
  | .Name x ps, .ListComp _ _ scope cp => swapC sc x ps cp scope
  | _, _ => false
def par2 (N : List Str) (sc : Scope) (is : List Nat) (ts vs : List Expr) : Bool := match is, ts with
  | [i, j], [.Name x px, .Name y py] => decide (N[i]? = some x) && (decide (N[j]? = some y) && (decide (i ≠ j) && swap2 sc x y px py vs))
  | [i, j, l], [.Name x px, .Name y py, .Name z pz] => decide (N[i]? = some x) && (decide (N[j]? = some y) && (decide (N[l]? = some z) && (decide (i ≠ j ∧ i ≠ l ∧ j ≠ l) && swap3 sc x y z px py pz vs)))
  | _, _ => false
def chkP (T : Tb) (N : List Str) (sc : Scope) (o : Ex) (as : Ar) (e : Expr) : Bool := match e with
  | .Call (.Attribute eo m apos) es [] cp => decide (m = "pop") && (noCall eo && ((apos.endLine == cp.line) && (decide (es.length ≤ 2) && (chkE T N sc o eo && chkA T N sc as es))))
  | _ => false
mutual
def chkS (T : Tb) (N : List Str) (sc : Scope) : Sm → Stmt → Bool
  | .asg t a, s => (match s with
    | .Assign [tg] e _ => noSwap sc tg e && (tgB N sc fnT t tg && (chkE T N sc a e && ((!isComp e || offLoc sc tg) || (isCoM a && compTo sc tg e))))
    | _ => false)
  | .own i a, s => (match s with
    | .Assign [.Name x ps] e _ => decide (N[i]? = some x) && (stB sc fnT x && (isFr a && (chkE T N sc a e && ((!isComp e || offLoc sc (.Name x ps)) || (isCo a && compTo sc (.Name x ps) e)))))
    | _ => false)
  | .par is as, s => (match s with
    | .Assign [.Tuple ts _ _] (.Tuple vs _ _) _ => par2 N sc is ts vs && chkA T N sc as vs
    | _ => false)
  | .setf o f a, s => (match s with
    | .Assign [.Attribute eo f' _] e _ => decide (f = f') && (chkE T N sc o eo && chkE T N sc a e)
    | _ => false)
  | .seti o k a, s => (match s with
    | .Assign [.Subscript eo ek _] e _ => notSl ek && (chkE T N sc o eo && (chkE T N sc k ek && chkE T N sc a e))
    | _ => false)
  | .app o a, s => (match s with
    | .Expr (.Call (.Attribute eo m apos) [e] [] cp) _ => decide (m = "append") && (noCall eo && ((apos.endLine == cp.line) && (!isStar e && (chkE T N sc o eo && chkE T N sc a e))))
    | _ => false)
  | .pop none o as, s => (match s with
    | .Expr e _ => chkP T N sc o as e
    | _ => false)
  | .pop (some t) o as, s => (match s with
    | .Assign [tg] e _ => tgB N sc fnT t tg && (noSwap sc tg e && chkP T N sc o as e)
    | _ => false)
  | .expr a, s => (match s with
    | .Expr e _ => !isComp e && chkE T N sc a e
    | _ => false)
  | .aug i o a, s => (match s with
    | .AugAssign (.Name x _) o' e _ => decide (N[i]? = some x) && (stB sc fnT x && (decide (o = o') && chkE T N sc a e))
    | _ => false)
  | .augf o f p a, s => (match s with
    | .AugAssign (.Attribute eo f' _) p' e _ => decide (f = f') && (decide (p = p') && (chkE T N sc o eo && chkE T N sc a e))
    | _ => false)
  | .ife c a b, s => (match s with
    | .If ec sa sb _ => chkE T N sc c ec && (chkSs T N sc a sa && chkSs T N sc b sb)
    | _ => false)
  | .for_ t it b, s => (match s with
    | .For tg iter body [] _ => noSet iter && (tgB N sc fnT t tg && (chkI T N sc it tg iter && chkSs T N sc b body))
    | _ => false)
  | .while_ c b, s => (match s with
    | .While ec body [] _ => chkE T N sc c ec && chkSs T N sc b body
    | _ => false)
  | .ret a, s => (match s with
    | .Return (some e) _ => chkE T N sc a e
    | _ => false)
  | .retN, s => (match s with
    | .Return none _ => true
    | _ => false)
  | .brk, s => (match s with
    | .Break _ => true
    | _ => false)
  | .cnt, s => (match s with
    | .Continue _ => true
    | _ => false)
  | .pass, s => (match s with
    | .Pass _ => true
    | .Expr (.Constant (.str _) _ _) _ => true
    | _ => false)
def chkSs (T : Tb) (N : List Str) (sc : Scope) : Sms → List Stmt → Bool
  | .nil, ss => (match ss with
    | [] => true
    | _ => false)
  | .cons s r, ss => (match ss with
    | st :: ss => chkS T N sc s st && chkSs T N sc r ss
    | _ => false)
  | .frz _ r, ss => chkSs T N sc r ss
  | .dead, _ => true
end
section
variable {p : Pg} {N : List Str} {sc : Scope} {k : Nat} {X : Cx} {G : Fns} {T : Tb}
theorem comp_parts (tb : TbOk p T) (gf : GoodF p k G) {t : Tg} {it : It} {c : Ar} {a : Ex} {e : Expr} {fn : Str → Bool} (h : chkE T N sc (.comp t it c a) e = true) (g : Good p N sc fn (k + 1) X) : ∃ elt tg iter ifs scope pos, e = .ListComp elt [⟨tg, iter, ifs, 0⟩] scope pos ∧ BlkOk N sc scope (ownL N t) ∧
    (∀ ρ S, FI p X ρ S tg iter (evI G it ρ S)) ∧ (∀ X', Good p N (relS scope sc) (fnB scope) (k + 1) X' → FG p X' t tg) ∧ FC p G (Good p N (relS scope sc) (fnB scope) (k + 1)) ifs c ∧
    (∀ X', Good p N (relS scope sc) (fnB scope) (k + 1) X' → ∀ ρ S, FE p X' ρ S elt (evE G a ρ S)) ∧ ∀ x, foldedSetIterable iter X.env x = pure x := by
  unfold chkE at h; split at h
  · simp only [Bool.and_eq_true, decide_eq_true_eq] at h
    obtain ⟨rfl, h1, h2, h3, h4, h5, h6, h7⟩ := h
    have hi := sI tb gf it h5 g
    rename_i elt tg iter ifs scope pos
    have hc : ∀ X', Good p N (relS scope sc) (fnB scope) (k + 1) X' → OkA p X' G ifs c := fun X' g' => sA tb gf c h6 g'
    have he : ∀ X', Good p N (relS scope sc) (fnB scope) (k + 1) X' → Ok4 p X' G elt a := fun X' g' => sE tb gf a h7 g'
    have fc : FC p G (Good p N (relS scope sc) (fnB scope) (k + 1)) ifs c := by
      cases c with
      | nil =>
        cases ifs with
        | nil => exact .nil
        | cons _ _ => cases h6
      | cons c1 cr =>
        cases ifs with
        | nil => cases h6
        | cons f fs =>
          cases fs with
          | cons _ _ => simp at h4
          | nil =>
            cases cr with
            | cons _ _ =>
              have h6 := (Bool.and_eq_true_iff.mp (Bool.and_eq_true_iff.mp h6).2).2
              cases h6
            | nil =>
              refine .one fun X' g' ρ S => ?_
              have q := hc X' g'
              cases q with
              | cons _ q _ => exact q.ft ρ S
    exact ⟨elt, tg, iter, ifs, scope, pos, rfl, blkOk_by h1, hi, fun X' g' => tg_ok h2 g', fc, fun X' g' ρ S => (he X' g').fe ρ S, fold_ok h3⟩
  · cases h
theorem comp_loc {x : Str} {ps cp : Pos} {scope : Scope} (h : swapC sc x ps cp scope = true) : sc.names.lookup x = some .local := by
  unfold swapC at h
  simp only [Bool.and_eq_true, decide_eq_true_eq] at h
  exact h.1
theorem tg_name {i : Nat} {t : Tg} {x : Str} {ps : Pos} {fn : Str → Bool} (h : tgB N sc fn t (.Name x ps) = true) : ∃ i, t = .nm i ∧ N[i]? = some x := by
  cases t with
  | nm i =>
    have h : (decide (N[i]? = some x) && stB sc fn x) = true := h
    rw [Bool.and_eq_true, decide_eq_true_eq] at h
    exact ⟨i, rfl, h.1⟩
  | nms is => cases h
theorem sP (tb : TbOk p T) (gf : GoodF p k G) {o : Ex} {as : Ar} {e : Expr} {fn : Str → Bool} (h : chkP T N sc o as e = true) (g : Good p N sc fn (k + 1) X) : isComp e = false ∧ ∀ ρ S, FP p X ρ S e (evP G o as ρ S) := by
  unfold chkP at h; split at h
  · simp only [Bool.and_eq_true, decide_eq_true_eq] at h
    obtain ⟨rfl, h2, h3, h4, h5, h6⟩ := h
    have ho := sE tb gf o h5 g
    have ha := sA tb gf as h6 g
    refine ⟨rfl, fun ρ S => ?_⟩
    cases ha with
    | nil => exact fp_pop0 g (attr_ok h2) h3 (ho.fh ρ S)
    | cons s1 a1 ha =>
      cases ha with
      | nil => exact fp_pop1 g (m1_ok h2 s1 h3) s1 (ho.fh ρ S) fun S => a1.fe ρ S
      | cons s2 a2 ha =>
        cases ha with
        | nil => exact fp_pop2 g (m2_ok h2 s1 s2 h3) (ho.fh ρ S) (fun S => a1.fe ρ S) fun S => a2.fe ρ S
        | cons _ _ _ => simp at h4
  · cases h
theorem set_tree {eo ek : Expr} {ps : Pos} {env : Env} (h : notSl ek = true) (v : Value) : assign (.Subscript eo ek ps) env v = (do
      let ov ← holding [v] (eval eo env)
      let iv ← holding [v, ov] (eval ek env)
      standAt ps
      holding [v, ov, iv] (setItem ov iv v)
      release [v, ov, iv] []) := by
  cases ek <;> first | rfl | cases h
theorem sPar (hk : sc.kind = .function) {is : List Nat} {ts vs : List Expr} {kt k2 : Nat} {pt pt2 pos : Pos} {as : Ar} (h : par2 N sc is ts vs = true) (g : Good p N sc fnT (k + 1) X) (ha : OkA p X G vs as) : ∀ ρ S, FS p X ρ S (.Assign [.Tuple ts kt pt] (.Tuple vs k2 pt2) pos) (evS G (.par is as) ρ S) := by
  unfold par2 at h; split at h
  · simp only [Bool.and_eq_true, decide_eq_true_eq] at h
    obtain ⟨h1, h2, h3, h4⟩ := h
    have hw := ss_two (kt := kt) (k2 := k2) (pt := pt) (pt2 := pt2) g.sc hk h4
    unfold swap2 at h4
    simp only [Bool.and_eq_true, decide_eq_true_eq] at h4
    obtain ⟨l1, l2, _, _, l5, _⟩ := h4
    match vs, l5, ha with
    | [e1, e2], _, ha => exact fun ρ S => fs_par2 g h1 h2 h3 l1 l2 hw (sws_tg (.inl rfl)) (ha.fa ρ S)
  · simp only [Bool.and_eq_true, decide_eq_true_eq] at h
    obtain ⟨h1, h2, h3, h4, h5⟩ := h
    have hw := ss_three (kt := kt) (k2 := k2) (pt := pt) (pt2 := pt2) g.sc hk h5
    unfold swap3 at h5
    simp only [Bool.and_eq_true, decide_eq_true_eq] at h5
    obtain ⟨l1, l2, l3, _, _, _, l5, _⟩ := h5
    match vs, l5, ha with
    | [e1, e2, e3], _, ha => exact fun ρ S => fs_par3 g h1 h2 h3 h4.1 h4.2.1 h4.2.2 l1 l2 l3 hw (sws_tg (.inl rfl)) (ha.fa ρ S)
  · cases h
mutual
theorem sS (tb : TbOk p T) (gf : GoodF p k G) (hk : sc.kind = .function) : ∀ (s : Sm) {st : Stmt} {X : Cx}, chkS T N sc s st = true → Good p N sc fnT (k + 1) X → ∀ ρ S, FS p X ρ S st (evS G s ρ S)
  | .asg t a, st, X, h, g => by
    unfold chkS at h; split at h
    · simp only [Bool.and_eq_true] at h
      obtain ⟨h1, h2, h3, h4⟩ := h
      rw [Bool.or_eq_true] at h4
      rcases h4 with h4 | h4
      · rw [Bool.or_eq_true, Bool.not_eq_true'] at h4
        have h5 := h4
        exact fun ρ S => fs_asg (sws_off g.sc h5) (ss_no g.sc h1) (tg_nm h2) (tg_ok h2 g) ((sE tb gf a h3 g).fe ρ S)
      · rw [Bool.and_eq_true] at h4
        obtain ⟨h4, h5⟩ := h4
        unfold compTo at h5
        split at h5
        · obtain ⟨i, rfl, hN⟩ := tg_name (i := 0) h2
          cases a <;> try cases h4
          · obtain ⟨elt, tg, iter, ifs, scope, pos, e, ok, hi, hg, fc, he, hs⟩ := comp_parts tb gf h3 g
            cases e
            exact fun ρ S => fs_asgC g (sw_comp g.sc hk h5) hN (comp_loc h5) (hi ρ S) ok own_ix hg fc he hs
          · rename_i a
            cases a <;> try cases h4
            unfold chkE at h3
            rw [Bool.and_eq_true] at h3
            obtain ⟨elt, tg, iter, ifs, scope, pos, e, ok, hi, hg, fc, he, hs⟩ := comp_parts tb gf h3.2 g
            cases e
            exact fun ρ S => fs_asgCm g (sw_comp g.sc hk h5) hN (comp_loc h5) (hi ρ S) ok own_ix hg fc he hs
        · cases h5
    · cases h
  | .own i a, st, X, h, g => by
    unfold chkS at h; split at h
    · simp only [Bool.and_eq_true, decide_eq_true_eq] at h
      obtain ⟨h1, h2, h3, h4, h5⟩ := h
      obtain ⟨l, f⟩ := st_ok h2
      rw [Bool.or_eq_true] at h5
      rcases h5 with h5 | h5
      · rw [Bool.or_eq_true, Bool.not_eq_true'] at h5
        exact fun ρ S => fs_own g (sw_off g.sc h5) h1 l f ((sE tb gf a h4 g).fn h3 ρ S)
      · rw [Bool.and_eq_true] at h5
        obtain ⟨h5, h6⟩ := h5
        cases a <;> try cases h5
        obtain ⟨elt, tg, iter, ifs, scope, pos, e, ok, hi, hg, fc, he, hs⟩ := comp_parts tb gf h4 g
        cases e
        exact fun ρ S => fs_ownC g (sw_comp g.sc hk h6) h1 (comp_loc h6) (hi ρ S) ok own_ix hg fc he hs
    · cases h
  | .par is as, st, X, h, g => by
    unfold chkS at h; split at h
    · rw [Bool.and_eq_true] at h
      exact sPar hk h.1 g (sA tb gf as h.2 g)
    · cases h
  | .setf o f a, st, X, h, g => by
    unfold chkS at h; split at h
    · simp only [Bool.and_eq_true, decide_eq_true_eq] at h
      obtain ⟨rfl, h2, h3⟩ := h
      exact fun ρ S => fs_setf g gf.toFldOk (sw_tg (.inr rfl)) (fun S => (sE tb gf o h2 g).fe ρ S) ((sE tb gf a h3 g).fe ρ S)
    · cases h
  | .seti o kx a, st, X, h, g => by
    unfold chkS at h; split at h
    · simp only [Bool.and_eq_true] at h
      obtain ⟨h1, h2, h3, h4⟩ := h
      exact fun ρ S => fs_seti g (sws_tg (.inr rfl)) (ss_no g.sc rfl) (set_tree h1) (fun S => (sE tb gf o h2 g).fh ρ S) (fun S => (sE tb gf kx h3 g).fe ρ S) ((sE tb gf a h4 g).fe ρ S)
    · cases h
  | .app o a, st, X, h, g => by
    unfold chkS at h; split at h
    · simp only [Bool.and_eq_true, decide_eq_true_eq, Bool.not_eq_true'] at h
      obtain ⟨rfl, h2, h3, h4, h5, h6⟩ := h
      exact fun ρ S => fs_app g (sw_no rfl) (attr_ok h2) h3 h4 ((sE tb gf o h5 g).fh ρ S) fun S => (sE tb gf a h6 g).fe ρ S
    · cases h
  | .pop none o as, st, X, h, g => by
    unfold chkS at h; split at h
    · obtain ⟨c, q⟩ := sP tb gf h g
      exact fun ρ S => fs_pop (sw_no c) (q ρ S)
    · cases h
  | .pop (some t) o as, st, X, h, g => by
    unfold chkS at h; split at h
    · simp only [Bool.and_eq_true] at h
      obtain ⟨h1, h2, h3⟩ := h
      obtain ⟨c, q⟩ := sP tb gf h3 g
      exact fun ρ S => fs_popT (sws_tg (.inl c)) (ss_no g.sc h2) (tg_nm h1) (tg_ok h1 g) (q ρ S)
    · cases h
  | .expr a, st, X, h, g => by
    unfold chkS at h; split at h
    · simp only [Bool.and_eq_true, Bool.not_eq_true'] at h
      exact fun ρ S => fs_expr (sw_no h.1) ((sE tb gf a h.2 g).fe ρ S)
    · cases h
  | .aug i o a, st, X, h, g => by
    unfold chkS at h; split at h
    · simp only [Bool.and_eq_true, decide_eq_true_eq] at h
      obtain ⟨h1, h2, rfl, h3⟩ := h
      obtain ⟨l, f⟩ := st_ok h2
      exact fun ρ S => fs_aug g h1 l f ((sE tb gf a h3 g).fe ρ S)
    · cases h
  | .augf o f p a, st, X, h, g => by
    unfold chkS at h; split at h
    · simp only [Bool.and_eq_true, decide_eq_true_eq] at h
      obtain ⟨rfl, rfl, h2, h3⟩ := h
      exact fun ρ S => fs_augf g gf.toFldOk ((sE tb gf o h2 g).fe ρ S) (fun S => (sE tb gf a h3 g).fe ρ S)
    · cases h
  | .ife c a b, st, X, h, g => by
    unfold chkS at h; split at h
    · simp only [Bool.and_eq_true] at h
      obtain ⟨h1, h2, h3⟩ := h
      exact fun ρ S => fs_ife ((sE tb gf c h1 g).ft ρ S) (sSs tb gf hk a h2 g) (sSs tb gf hk b h3 g)
    · cases h
  | .for_ t it b, st, X, h, g => by
    unfold chkS at h; split at h
    · simp only [Bool.and_eq_true] at h
      obtain ⟨h1, h2, h3, h4⟩ := h
      exact fun ρ S => fs_for g (sI tb gf it h3 g ρ S) (tg_ok h2 g) (sSs tb gf hk b h4 g) (fold_ok h1)
    · cases h
  | .while_ c b, st, X, h, g => by
    unfold chkS at h; split at h
    · simp only [Bool.and_eq_true] at h
      exact fun ρ S => fs_while g (sE tb gf c h.1 g).ft (sSs tb gf hk b h.2 g)
    · cases h
  | .ret a, st, X, h, g => by
    unfold chkS at h; split at h
    · exact fun ρ S => fs_ret ((sE tb gf a h g).fe ρ S)
    · cases h
  | .retN, st, X, h, g => by
    unfold chkS at h; split at h
    · exact fun ρ S => fs_retN
    · cases h
  | .brk, st, X, h, g => by
    unfold chkS at h; split at h
    · exact fun ρ S => fs_brk
    · cases h
  | .cnt, st, X, h, g => by
    unfold chkS at h; split at h
    · exact fun ρ S => fs_cnt
    · cases h
  | .pass, st, X, h, g => by
    unfold chkS at h; split at h
    · exact fun ρ S => fs_pass
    · exact fun ρ S => fs_doc
    · cases h
theorem sSs (tb : TbOk p T) (gf : GoodF p k G) (hk : sc.kind = .function) : ∀ (s : Sms) {ss : List Stmt} {X : Cx}, chkSs T N sc s ss = true → Good p N sc fnT (k + 1) X → ∀ ρ S, FSs p X ρ S ss (evSs G s ρ S)
  | .nil, ss, X, h, g => by
    unfold chkSs at h; split at h
    · exact fun ρ S => fss_nil
    · cases h
  | .cons s r, ss, X, h, g => by
    unfold chkSs at h; split at h
    · rw [Bool.and_eq_true] at h
      exact fun ρ S => fss_cons (sS tb gf hk s h.1 g ρ S) (sSs tb gf hk r h.2 g)
    · cases h
  | .frz i r, ss, X, h, g => by
    unfold chkSs at h
    exact fun ρ S => fss_frz (sSs tb gf hk r h g)
  | .dead, ss, X, h, g => fun ρ S Pr F ι α σ H R o e => by rw [evSs] at e; cases e
end
end
end Z

set_option Elab.async false
set_option linter.all false
set_option maxRecDepth 100000
set_option maxHeartbeats 4000000
namespace Z
open PySem PySem.Spec PyProof.Rows L2

/-! # the top's facts -/
def Cst.v : Cst → V
  | .non => .non | .bl b => .bl b | .int i => .int i | .str x => .str x
def seqO (o : Obj) : Bool := match o.data with
  | .seq _ _ => true
  | _ => false
/-- the written part, without lists and tuples, without the code objects' empty tables -/
def frZ (g : Addr → Option Obj) (as : List Addr) : PySem.W.Frag := (He.frG g as).filter fun q => !seqO q.2 && !He.emptyTab q.2
theorem mem_of_look {a : Addr} {o : Obj} : ∀ {l : List (Addr × Obj)}, l.lookup a = some o → (a, o) ∈ l
  | (b, u) :: r, h => by
    rw [List.lookup_cons] at h
    split at h
    · rename_i e
      cases h
      rw [eq_of_beq e]
      exact List.mem_cons_self
    · exact List.mem_cons_of_mem _ (mem_of_look h)
theorem frZ_mem {g : Addr → Option Obj} {as : List Addr} {a : Addr} {o : Obj} (h : (frZ g as).lookup a = some o) : g a = some o ∧ seqO o = false ∧ He.emptyTab o = false := by
  obtain ⟨h1, h2⟩ := List.mem_filter.mp (mem_of_look h)
  refine ⟨?_, by simpa using h2⟩
  unfold He.frG at h1
  obtain ⟨b, _, e⟩ := List.mem_filterMap.mp h1
  obtain ⟨u, e1, e2⟩ := Option.map_eq_some_iff.mp e
  cases e2
  exact e1
/-- a constant of the top: its value; a tuple's things -/
def conB (K : PySem.W.Frag) (g : Addr → Option Obj) (q : Str × GC) : Bool := match PySem.W.nsIn K mainGlobals q.1 with
  | some (some u) => (match q.2 with
    | .one c => He.relB c.v u
    | .many cs => (match u with
      | .ref a => (match g a with
        | some ⟨.type c, _, .seq its _, _⟩ => decide (c = "tuple") && (decide (its.size ≤ sizeLine) && (He.relAll (cs.map Cst.v) its.toList))
        | _ => false)
      | _ => false))
  | _ => false
structure DefR where
  d : He.DefD
  N : List Str
  np : Nat
  body : Sms
structure Conf where
  rs : List DefR
  flds : List (Str × List Str)
  bn : List Str
  cs : List (Str × GC)
def Conf.prog (c : Conf) : Prog := ⟨c.rs.map fun r => (r.d.at_, ⟨r.np, r.N.length, r.body⟩), c.flds⟩
def Conf.tb (c : Conf) : Tb := ⟨c.cs, c.bn⟩
def defFa (r : DefR) : List He.Fa := match r.d.at_ with
  | (x, none) => [.glo x, .keep x]
  | (C, some m) => [.glo C, .cls C, .meth C m] ++ if m = "__init__" then [.mkr C] else []
def Conf.fa (c : Conf) : List He.Fa := c.rs.flatMap defFa ++ (c.flds.flatMap fun q => .cls q.1 :: q.2.map (.noat q.1 ·)) ++ c.bn.map .free
def Conf.fn (c : Conf) : List He.DefD := c.rs.map (·.d)
/-- the defs that make lambdas; each one's code object and its table -/
def Conf.lams (c : Conf) : List DefR := c.rs.filter fun r => decide (("<lam>" : Str) ∈ r.N)
def Conf.T (c : Conf) (K : PySem.W.Frag) : List (Addr × Str) := c.lams.map fun r => ((He.cT K r.d.at_).2, r.d.qual ++ ".<locals>." ++ "<lambda>")
def lamsB (c : Conf) (g : Addr → Option Obj) (K : PySem.W.Frag) : Bool := He.tabsB g (c.lams.map (·.d.at_)) K && decide ((c.T K).map (·.1)).Nodup
def obsZ (n : Nat) (c : Conf) (g : Addr → Option Obj) : He.AlD := let K := frZ g (He.asD g n)
  ((He.obsD c.fa c.fn K).1 && (c.cs.all (conB K g) && lamsB c g K), (He.obsD c.fa c.fn K).2)
structure LamT (c : Conf) (h : Heap) (K : PySem.W.Frag) : Prop where
  hd : ∀ r ∈ c.lams, PySem.W.codeHdIn K (He.cT K r.d.at_).1 (He.cT K r.d.at_).2 = true
  em : ∀ r ∈ c.lams, h.get? (He.cT K r.d.at_).2 = some { cls := .none, data := .fields #[] }
  nd : ((c.T K).map (·.1)).Nodup
  out : ∀ a o, K.lookup a = some o → He.emptyTab o = false
def SaysZ (c : Conf) (h : Heap) : Prop := ∃ K : PySem.W.Frag, K.In h ∧ (∀ a o, K.lookup a = some o → seqO o = false) ∧ He.SaysD c.fa c.fn K ∧ (∀ q ∈ c.cs, conB K h.get? q = true) ∧ LamT c h K
theorem lamT_of {c : Conf} {h : Heap} {K : PySem.W.Frag} (e : lamsB c h.get? K = true) (out : ∀ a o, K.lookup a = some o → He.emptyTab o = false) : LamT c h K := by
  unfold lamsB at e
  rw [Bool.and_eq_true, decide_eq_true_eq] at e
  obtain ⟨e1, e2⟩ := e
  have key : ∀ r ∈ c.lams, PySem.W.codeHdIn K (He.cT K r.d.at_).1 (He.cT K r.d.at_).2 = true ∧ h.get? (He.cT K r.d.at_).2 = some { cls := .none, data := .fields #[] } := fun r hr => by
    have z := List.all_eq_true.mp e1 _ (List.mem_map.mpr ⟨r, hr, rfl⟩)
    simp only [Bool.and_eq_true] at z
    obtain ⟨z1, z2⟩ := z
    refine ⟨z1, ?_⟩
    split at z2
    · rename_i o ho
      rw [ho, He.emptyTab_eq z2]
    · cases z2
  exact ⟨fun r hr => (key r hr).1, fun r hr => (key r hr).2, e2, out⟩
def hookZ (n : Nat) (c : Conf) : PySem.W.Hook where
  α := He.AlD
  obs := fun s => obsZ n c s.heap.get?
  val := fun _ => He.valD c.fn
  says := fun _ h => SaysZ c h
  of := fun _ s e => by
    have e0 : obsZ n c s.heap.get? = He.valD c.fn := e
    have e1 : (obsZ n c s.heap.get?).1 = true := by rw [e0]; rfl
    have e2 : (obsZ n c s.heap.get?).2 = (He.valD c.fn).2 := by rw [e0]
    have e1 : ((He.obsD c.fa c.fn (frZ s.heap.get? (He.asD s.heap.get? n))).1 && (c.cs.all (conB (frZ s.heap.get? (He.asD s.heap.get? n)) s.heap.get?) && lamsB c s.heap.get? (frZ s.heap.get? (He.asD s.heap.get? n)))) = true := e1
    rw [Bool.and_eq_true, Bool.and_eq_true] at e1
    refine ⟨_, fun a o h => (frZ_mem h).1, fun a o h => (frZ_mem h).2.1, ?_, fun q hq => List.all_eq_true.mp e1.2.1 q hq, lamT_of e1.2.2 fun a o h => (frZ_mem h).2.2⟩
    show He.obsD c.fa c.fn _ = He.valD c.fn
    exact Prod.ext e1.1 e2
  keeps := fun _ h h' ⟨K, hK, hs, c1, c2, c3⟩ k => ⟨K, PySem.W.Frag.In.keeps hK k, hs, c1, fun q hq => by
    have z := c2 q hq
    unfold conB at z ⊢
    split at z
    · split at z
      · exact z
      · split at z
        · split at z
          · rename_i e
            rw [k _ _ e]
            exact z
          · cases z
        · cases z
    · (cases z), ⟨c3.hd, fun r hr => k _ _ (c3.em r hr), c3.nd, c3.out⟩⟩
theorem obsZ_eq {n : Nat} {c : Conf} {g : Addr → Option Obj} {s : Shared} (h : ∀ a, g a = s.heap.get? a) : obsZ n c g = (hookZ n c).obs s := by
  have e : g = s.heap.get? := funext h
  rw [e] <;> rfl

/-! # the defs' check -/
def chkDef (tb : Tb) (r : DefR) : Bool := decide (r.np ≤ r.N.length) && (paramsB r.d.params (r.N.take r.np) && (scopeB r.N (r.N.take r.np) r.d.scope && (r.d.dfl.isEmpty && (r.d.kwd.isEmpty && chkSs tb r.N r.d.scope r.body r.d.body))))
def Conf.ok (c : Conf) : Bool := c.rs.all (chkDef c.tb) && (decide (c.cs.map (·.1)).Nodup && decide (c.rs.map fun r => r.d.at_).Nodup)
def Conf.pg (c : Conf) (P : Program) (w : World) (K : PySem.W.Frag) (mg : Str → Option Value) (base : Heap) : Pg := ⟨P, w, K, mg, base, fun C => some (He.ga K C), fun x => (c.cs.lookup x).map GC.d, c.T K⟩
section
variable {c : Conf} {P : Program} {w : World} {K : PySem.W.Frag} {mg : Str → Option Value} {base : Heap}
theorem look_nd {κ β : Type} [BEq κ] [LawfulBEq κ] {x : κ} {y : β} : ∀ {l : List (κ × β)}, (l.map (·.1)).Nodup → (x, y) ∈ l → l.lookup x = some y
  | (a, b) :: l, nd, h => by
    rw [List.map_cons, List.nodup_cons] at nd
    rw [List.lookup_cons]
    rcases List.mem_cons.mp h with e | h
    · cases e
      simp
    · have : (x == a) = false := by
        rw [beq_eq_false_iff_ne]
        intro z
        rw [z] at h
        exact nd.1 (List.mem_map.mpr ⟨_, h, rfl⟩)
      rw [this]
      exact look_nd nd.2 h
theorem mem_of_lookup' {κ β : Type} [BEq κ] [LawfulBEq κ] {x : κ} {y : β} : ∀ {l : List (κ × β)}, l.lookup x = some y → (x, y) ∈ l
  | (a, b) :: l, h => by
    rw [List.lookup_cons] at h
    split at h
    · rename_i e
      cases h
      rw [eq_of_beq e]
      exact List.mem_cons_self
    · exact List.mem_cons_of_mem _ (mem_of_lookup' h)
theorem nodup_uniq {α β : Type} {f : α → β} : ∀ {l : List α}, (l.map f).Nodup → ∀ {x y : α}, x ∈ l → y ∈ l → f x = f y → x = y
  | a :: l, nd, x, y, hx, hy, e => by
    rw [List.map_cons, List.nodup_cons] at nd
    rcases List.mem_cons.mp hx with h1 | h1
    · rcases List.mem_cons.mp hy with h2 | h2
      · rw [h1, h2]
      · exact absurd (List.mem_map.mpr ⟨y, h2, by rw [← e, h1]⟩) nd.1
    · rcases List.mem_cons.mp hy with h2 | h2
      · exact absurd (List.mem_map.mpr ⟨x, h1, by rw [e, h2]⟩) nd.1
      · exact nodup_uniq nd.2 h1 h2 e
theorem level (ok : c.ok = true) (says : He.SaysD c.fa c.fn K) (X : K.In base) (G : base.Ns mainGlobals mg) (TB : ∀ r ∈ c.lams, LamX.TabB base mg (He.cT K r.d.at_).1 (He.cT K r.d.at_).2) (ndT : ((c.T K).map (·.1)).Nodup) : ∀ n, GoodF (c.pg P w K mg base) (2 * n) (run c.prog n) := by
  have facts : ∀ f ∈ c.fa, f.ok K = true := fun f hf => by
    obtain ⟨i, hi, he⟩ := List.getElem_of_mem hf
    exact says.fact i (by rw [List.getElem?_eq_getElem hi, he])
  unfold Conf.ok at ok
  simp only [Bool.and_eq_true, decide_eq_true_eq] at ok
  obtain ⟨ok1, ok2, ok3⟩ := ok
  have tbok : TbOk (c.pg P w K mg base) c.tb := {
    con := fun x g h => by
      show (c.cs.lookup x).map GC.d = _
      rw [look_nd ok2 h]; rfl
    bn := fun x h => He.free_ok X G (facts _ (by unfold Conf.fa; simp only [List.mem_append, List.mem_map]; exact .inr ⟨x, h, rfl⟩)) }
  have fld : ∀ n, FldOk (c.pg P w K mg base) (run c.prog n) := fun n => {
    fld := fun C f Ca h hC => by
      cases hC
      have h : c.prog.fld C f = true := h
      unfold Prog.fld at h
      split at h
      · rename_i l hl
        have hm := mem_of_lookup' hl
        have hf : f ∈ l := of_decide_eq_true h
        refine ⟨He.cls_ok (facts (.cls C) ?_), He.noat_ok (facts (.noat C f) ?_)⟩
        · unfold Conf.fa
          simp only [List.mem_append, List.mem_flatMap]
          exact .inl (.inr ⟨_, hm, List.mem_cons_self⟩)
        · unfold Conf.fa
          simp only [List.mem_append, List.mem_flatMap]
          exact .inl (.inr ⟨_, hm, List.mem_cons_of_mem _ (List.mem_map.mpr ⟨f, hf, rfl⟩)⟩)
      · cases h }
  intro n
  induction n with
  | zero =>
    refine { toFldOk := fld 0, fn := fun x ds S r h => ?_, mt := fun C m ds S r h => ?_ }
    · cases h
    · cases h
  | succ n ih =>
    -- each def
    have one : ∀ {key : Str × Option Str} {fd : Fd}, c.prog.defs.lookup key = some fd → ∃ r ∈ c.rs, r.d.at_ = key ∧ ∃ fdt, He.fAd K key = He.fAd K key ∧ PySem.W.keepIn K (.ref (He.fAd K key)) = true ∧ Binds K fdt (r.N.take r.np) [] ∧
        FnG (c.pg P w K mg base) (2 * (n + 1)) (He.fAd K key) fdt (r.N.take r.np) (runF c.prog (n + 1) key) := fun {key fd} hl => by
      have hm := mem_of_lookup' hl
      obtain ⟨r, hr, e⟩ := List.mem_map.mp hm
      cases e
      have hc := List.all_eq_true.mp ok1 r hr
      unfold chkDef at hc
      simp only [Bool.and_eq_true, decide_eq_true_eq, List.isEmpty_iff] at hc
      obtain ⟨c1, c2, c3, c4, c5, c6⟩ := hc
      have sc := scope_ok c3
      obtain ⟨as, p1, p2⟩ := params_ok c2
      obtain ⟨i, hi, he⟩ := List.getElem_of_mem hr
      obtain ⟨fdt, F⟩ := says.def_ i (d := r.d) (by show (c.rs.map (·.d))[i]? = _; rw [List.getElem?_map, List.getElem?_eq_getElem hi, he]; rfl)
      have F : FunD K r.d.name r.d.qual r.d.params r.d.body r.d.scope [] [] (He.fAd K r.d.at_) fdt := by
        have e1 : r.d.dvs K = [] := by unfold He.DefD.dvs; rw [c4]; rfl
        have e2 : r.d.kws K = [] := by unfold He.DefD.kws; rw [c5]; rfl
        rw [e1, e2] at F; exact F
      have nd : (r.N.take r.np).Nodup := sc.nd.sublist (List.take_sublist _ _)
      refine ⟨r, hr, rfl, fdt, rfl, F.kp, F.bindsN fun kV doc pm an cdv ct us hu => bind_plain p1 rfl p2 nd hu, ?_⟩
      obtain ⟨oc, od, dV, kV, doc, pm, an, cdv, ct, osl, rfl, lk, hcd, _, _⟩ := F.ex
      have hlen : (r.N.take r.np).length = r.np := by rw [List.length_take]; omega
      have hlam : ("<lam>" : Str) ∈ r.N → LamOf (c.pg P w K mg base) cdv (r.d.qual ++ ".<locals>.") := fun hN => by
        have hr' : r ∈ c.lams := List.mem_filter.mpr ⟨hr, decide_eq_true hN⟩
        obtain ⟨cc, rfl⟩ := He.codeIn_ref hcd
        have e1 : He.codeOf K r.d.at_ = cc := He.codeOf_eq lk rfl
        have e2 : (He.cT K r.d.at_).1 = cc := e1
        have e3 : ((He.cT K r.d.at_).2, r.d.qual ++ ".<locals>." ++ "<lambda>") ∈ c.T K := List.mem_map.mpr ⟨r, hr', rfl⟩
        refine ⟨cc, (He.cT K r.d.at_).2, rfl, by rw [← e2]; exact TB r hr', e3, fun q hq e => ?_⟩
        have := nodup_uniq ndT hq e3 e
        rw [this]
      have D := def_ok (p := c.pg P w K mg base) (k := 2 * n + 1) lk hcd sc hlam (r := evSs (run c.prog n) r.body) fun X' g' => sSs tbok ih sc.kind r.body c6 g'
      have e : (fun ds S => if ds.length = (r.N.take r.np).length then (evSs (run c.prog n) r.body (stS r.N (r.N.take r.np) ds) S).bind outR else none) = runF c.prog (n + 1) r.d.at_ := by
        funext ds S
        show _ = (match c.prog.defs.lookup r.d.at_ with
          | some fd => _
          | none => none)
        rw [hl]
        simp only [hlen, stS]
        congr 2
      rw [e] at D
      exact D
    refine { toFldOk := fld _, fn := fun x ds S r h => ?_, mt := fun C m ds S r h => ?_ }
    · have h : runF c.prog (n + 1) (x, none) ds S = some r := h
      cases hl : c.prog.defs.lookup (x, none) with
      | none => unfold runF at h; rw [hl] at h; cases h
      | some fd =>
        obtain ⟨r, hr, e, fdt, _, kp, bd, D⟩ := one hl
        refine ⟨_, fdt, _, He.glo_ok X G (facts (.glo x) ?_), kp, bd, D⟩
        unfold Conf.fa
        simp only [List.mem_append, List.mem_flatMap]
        refine .inl (.inl ⟨r, hr, ?_⟩)
        unfold defFa
        rw [e]
        exact List.mem_cons_self
    · have h : runF c.prog (n + 1) (C, some m) ds S = some r := h
      cases hl : c.prog.defs.lookup (C, some m) with
      | none => unfold runF at h; rw [hl] at h; cases h
      | some fd =>
        obtain ⟨r, hr, e, fdt, _, kp, bd, D⟩ := one hl
        have mem : ∀ f ∈ defFa r, f.ok K = true := fun f hf => facts f (by
          unfold Conf.fa
          simp only [List.mem_append, List.mem_flatMap]
          exact .inl (.inl ⟨r, hr, hf⟩))
        have e3 : defFa r = [.glo C, .cls C, .meth C m] ++ if m = "__init__" then [.mkr C] else [] := by unfold defFa; rw [e]
        rw [e3] at mem
        refine ⟨He.ga K C, He.fAd K (C, some m), fdt, _, He.glo_ok X G (mem _ (by simp)), rfl, He.cls_ok (mem _ (by simp)), He.meth_ok (mem _ (by simp)), bd, D, fun hm => ?_⟩
        subst hm
        exact He.mkr_ok (mem (.mkr C) (by simp))
end
end Z

set_option Elab.async false
set_option linter.all false
set_option maxRecDepth 100000
set_option maxHeartbeats 4000000
namespace Z
open PySem PySem.Spec PyProof.Rows L2

/-! # the law's call -/
def scV : Value → V
  | .none => .non | .bool b => .bl b | .int i _ => .int i | .str x _ => .str x
  | _ => .non
theorem scV_rel {q : Cst} {u : Value} (h : He.relB q.v u = true) : scV u = q.v ∧ RelV q.v u := by
  refine ⟨?_, He.relB_ok h⟩
  have r := He.relB_ok h
  cases q with
  | non => cases (show u = .none from r); rfl
  | bl b => cases (show u = .bool b from r); rfl
  | int i => obtain ⟨t, e⟩ := (show ∃ t, u = .int i t from r); cases e; rfl
  | str x => obtain ⟨t, e⟩ := (show ∃ t, u = .str x t from r); cases e; rfl
theorem scVs_rel : ∀ {cs : List Cst} {us : List Value}, He.relAll (cs.map Cst.v) us = true → us.map scV = cs.map Cst.v ∧ Vals (cs.map Cst.v) us
  | [], [], _ => ⟨rfl, .nil⟩
  | [], _ :: _, h => by cases h
  | _ :: _, [], h => by cases h
  | c :: cs, u :: us, h => by
    obtain ⟨h1, h2⟩ := He.ba (show (He.relB c.v u && He.relAll (cs.map Cst.v) us) = true from h)
    obtain ⟨e1, r1⟩ := scV_rel h1
    obtain ⟨e2, r2⟩ := scVs_rel h2
    exact ⟨by rw [List.map_cons, List.map_cons, e1, e2], .cons r1 r2⟩
/-- the top's tuples, each with its object -/
structure Held (h : Heap) (T : Addr → Option (Obj × List V)) : Prop where
  at_ : ∀ a o vs, T a = some (o, vs) → h.get? a = some o ∧ o.cls = .type "tuple" ∧ (∃ its n, o.data = .seq its n ∧ its.size ≤ sizeLine ∧ Vals vs its.toList)
theorem cst_rep {K : PySem.W.Frag} {F : Hp} {ι : List Addr} (c : Cst) : Rep K F ι c.v c.d := by
  cases c with
  | non => exact .non
  | bl b => exact .bl b
  | int i => exact .int i
  | str x => exact .str x
theorem csts_rep {K : PySem.W.Frag} {F : Hp} {ι : List Addr} : ∀ cs : List Cst, Reps K F ι (cs.map Cst.v) (cs.map Cst.d)
  | [] => .nil
  | c :: cs => .cons (cst_rep c) (csts_rep cs)
/-- the table of the top's tuples -/
def tabC (K : PySem.W.Frag) (h : Heap) (cs : List (Str × GC)) (a : Addr) : Option (Obj × List V) := match cs with
  | [] => none
  | (x, .many ks) :: r => if a = He.ga K x then (h.get? a).map fun o => (o, ks.map Cst.v) else tabC K h r a
  | (_, .one _) :: r => tabC K h r a
theorem conB_many {K : PySem.W.Frag} {h : Heap} {x : Str} {ks : List Cst} (e : conB K h.get? (x, .many ks) = true) : PySem.W.nsIn K mainGlobals x = some (some (.ref (He.ga K x))) ∧ ∃ o its n, h.get? (He.ga K x) = some o ∧ o.cls = .type "tuple" ∧ o.data = .seq its n ∧ its.size ≤ sizeLine ∧ Vals (ks.map Cst.v) its.toList := by
  unfold conB at e
  split at e
  · rename_i u hu
    have hu : PySem.W.nsIn K mainGlobals x = some (some u) := hu
    simp only at e
    split at e
    · rename_i a _
      have hga : He.ga K x = a := by unfold He.ga; rw [hu]
      split at e
      · rename_i c od its n sl hg
        simp only [Bool.and_eq_true, decide_eq_true_eq] at e
        obtain ⟨rfl, h1, h2⟩ := e
        refine ⟨by rw [hga]; exact hu, _, its, n, by rw [hga]; exact hg, rfl, rfl, h1, (scVs_rel h2).2⟩
      · cases e
    · cases e
  · cases e
theorem conB_one {K : PySem.W.Frag} {g : Addr → Option Obj} {x : Str} {q : Cst} (e : conB K g (x, .one q) = true) : ∃ u, PySem.W.nsIn K mainGlobals x = some (some u) ∧ RelV q.v u := by
  unfold conB at e
  split at e
  · rename_i u hu
    exact ⟨u, hu, (scV_rel e).2⟩
  · cases e
theorem tab_held {K : PySem.W.Frag} {h : Heap} : ∀ {cs : List (Str × GC)}, (∀ q ∈ cs, conB K h.get? q = true) → Held h (tabC K h cs)
  | [], _ => ⟨fun a o vs e => by cases e⟩
  | (x, .one c) :: r, H => by
    have := tab_held (cs := r) fun q hq => H q (List.mem_cons_of_mem _ hq)
    exact ⟨fun a o vs e => this.at_ a o vs e⟩
  | (x, .many ks) :: r, H => by
    have ih := tab_held (cs := r) fun q hq => H q (List.mem_cons_of_mem _ hq)
    refine ⟨fun a o vs e => ?_⟩
    unfold tabC at e
    split at e
    · rename_i ha
      obtain ⟨_, o', its, n, h1, h2, h3, h4, h5⟩ := conB_many (H _ List.mem_cons_self)
      subst ha
      rw [h1] at e
      cases e
      exact ⟨h1, h2, ⟨its, n, h3, h4, h5⟩⟩
    · exact ih.at_ a o vs e
theorem tab_has {K : PySem.W.Frag} {h : Heap} {x : Str} {ks : List Cst} : ∀ {cs : List (Str × GC)}, (∀ q ∈ cs, conB K h.get? q = true) → (x, .many ks) ∈ cs → ∃ o, tabC K h cs (He.ga K x) = some (o, ks.map Cst.v)
  | (y, .one c) :: r, H, hm => by
    rcases List.mem_cons.mp hm with e | hm
    · cases e
    · exact tab_has (cs := r) (fun q hq => H q (List.mem_cons_of_mem _ hq)) hm
  | (y, .many ls) :: r, H, hm => by
    obtain ⟨_, o, its, n, h1, _, h3, _, h5⟩ := conB_many (H (y, .many ls) List.mem_cons_self)
    unfold tabC
    by_cases ha : He.ga K x = He.ga K y
    · rw [if_pos ha, ha, h1]
      refine ⟨o, ?_⟩
      show some (o, ls.map Cst.v) = _
      obtain ⟨_, o2, its2, n2, k1, _, k3, _, k5⟩ := conB_many (H (x, .many ks) hm)
      rw [ha, h1] at k1
      cases k1
      rw [h3] at k3
      cases k3
      rw [Vals.inj h5 k5]
    · rw [if_neg ha]
      rcases List.mem_cons.mp hm with e | hm
      · cases e; exact absurd rfl ha
      · exact tab_has (cs := r) (fun q hq => H q (List.mem_cons_of_mem _ hq)) hm
theorem ints_reps {K : PySem.W.Frag} {F : Hp} {ι : List Addr} : ∀ ns : List Int, Reps K F ι (ns.map V.int) (ns.map D.int)
  | [] => .nil
  | n :: ns => .cons (.int n) (ints_reps ns)
section
open Classical
/-- the heap at the call: the script and the top's tuples, both held as they are -/
def hp0 (T : Addr → Option (Obj × List V)) (ts : List Addr) (a : Addr) (os : Obj) (ns : List Int) : Hp := fun b => if b = a then some (.frz os (.lst (ns.map .int))) else match T b with
  | some q => some (.frz q.1 (.tup q.2))
  | none => if b ∈ ts then some (.tbl #[]) else none
def fp0 (T : Addr → Option (Obj × List V)) : Hp := fun b => (T b).map fun q => .frz q.1 (.tup q.2)
theorem law_run {c : Conf} {P : Program} {w : World} {K : PySem.W.Frag} {mg mb : Str → Option Value} {N : Nat} {fa a : Addr} {s₁ : Shared} {vs : List Value} {ns : List Int} {S' : Store}
    (ok : c.ok = true) (says : He.SaysD c.fa c.fn K) (noseq : ∀ a o, K.lookup a = some o → seqO o = false) (con : ∀ q ∈ c.cs, conB K s₁.heap.get? q = true) (lt : LamT c s₁.heap K)
    (hbm : ∃ (bm : Addr) (ob : Obj), mg "__builtins__" = some (.ref bm) ∧ bm ≠ builtinsNs ∧ s₁.heap.get? bm = some ob ∧ ob.cls = .type "module" ∧ ob.dict = some builtinsNs ∧ ob.data = .plain)
    (KX : K.In s₁.heap) (hns : s₁.heap.Ns mainGlobals mg) (hb : s₁.heap.Ns builtinsNs mb) (hbb : ∀ x : Str, x ≠ "__name__" → mb x = bootBuiltins x) (hlim : s₁.heap.NoLimit) (hg : s₁.gens = #[])
    (ha : s₁.heap.get? a = some { cls := .type "list", data := .seq vs.toArray }) (hi : IntsAre vs ns) (hl : ns.length ≤ sizeLine) (hr : Room (2 * N) callerA) (hfa : mg "law" = some (.ref fa))
    (ev : runF c.prog N ("law", none) [.ref 0] [.lck (.lst (ns.map D.int))] = some (.bl true, S')) :
    codeAny (model P w) callerA (.call (.ref fa) ⟨[.ref a], []⟩) (fun r s' => r = .ok (.ret (.bool true)) ∧ OldK s₁.heap s'.heap ∧ s'.os = s₁.os ∧ AllBare s'.gens) s₁ := by
  have rv := vals_ints hi
  have lenV := hi.length
  have held := tab_held con
  generalize hT : tabC K s₁.heap c.cs = T at held
  have Ta : T a = none := by
    cases e : T a with
    | none => rfl
    | some q =>
      obtain ⟨h1, h2, _⟩ := held.at_ a q.1 q.2 e
      rw [ha] at h1
      rw [← Option.some.inj h1] at h2
      simp at h2
  generalize hos : ({ cls := .type "list", data := .seq vs.toArray } : Obj) = os at ha
  generalize hts : (c.T K).map (·.1) = ts
  have isT : ∀ {b : Addr}, b ∈ ts → s₁.heap.get? b = some { cls := .none, data := .fields #[] } := fun {b} hb => by
    subst hts
    obtain ⟨q, hq, rfl⟩ := List.mem_map.mp hb
    obtain ⟨r, hr, rfl⟩ := List.mem_map.mp hq
    exact lt.em r hr
  have aT : a ∉ ts := fun z => by
    have q := isT z
    rw [ha] at q; cases q; cases hos
  have TT : ∀ {b : Addr}, b ∈ ts → T b = none := fun {b} hb => by
    cases e : T b with
    | none => rfl
    | some q =>
      obtain ⟨h1, h2, _⟩ := held.at_ b q.1 q.2 e
      rw [isT hb] at h1
      rw [← Option.some.inj h1] at h2
      cases h2
  have H0a : hp0 T ts a os ns a = some (.frz os (.lst (ns.map .int))) := if_pos rfl
  have H0b : ∀ {b o us}, T b = some (o, us) → hp0 T ts a os ns b = some (.frz o (.tup us)) := fun {b o us} e => by
    have hb : b ≠ a := fun z => by rw [z, Ta] at e; cases e
    unfold hp0
    rw [if_neg hb, e]
  have H0t : ∀ {b}, b ∈ ts → hp0 T ts a os ns b = some (.tbl #[]) := fun {b} hb => by
    have hba : b ≠ a := fun z => aT (by rw [← z]; exact hb)
    unfold hp0
    rw [if_neg hba, TT hb]
    exact if_pos hb
  have H0n : ∀ {b u}, hp0 T ts a os ns b = some u → (b = a ∧ u = .frz os (.lst (ns.map .int))) ∨ (∃ o us, T b = some (o, us) ∧ u = .frz o (.tup us)) ∨ (b ∈ ts ∧ u = .tbl #[]) := fun {b u} e => by
    unfold hp0 at e
    split at e
    · rename_i hb; cases e; exact .inl ⟨hb, rfl⟩
    · split at e
      · rename_i q hq
        cases e
        exact .inr (.inl ⟨q.1, q.2, hq, rfl⟩)
      · split at e
        · rename_i hb; cases e; exact .inr (.inr ⟨hb, rfl⟩)
        · cases e
  -- what is tracked is a list, a tuple, an empty table
  have seq_of : ∀ {b u o}, hp0 T ts a os ns b = some u → s₁.heap.get? b = some o → seqO o = true ∨ o = { cls := .none, data := .fields #[] } := fun {b u o} e g => by
    rcases H0n e with ⟨rfl, _⟩ | ⟨o', us, h1, _⟩ | ⟨hb, _⟩
    · rw [ha] at g; cases g; subst hos; exact .inl rfl
    · obtain ⟨k1, _, ⟨its, n, k2, _⟩⟩ := held.at_ b o' us h1
      rw [k1] at g; cases g
      left
      unfold seqO; rw [k2]
    · rw [isT hb] at g; cases g; exact .inr rfl
  have hok : HOk P w (hp0 T ts a os ns) s₁.heap := fun b u e => by
    rcases H0n e with ⟨rfl, rfl⟩ | ⟨o', us, h1, rfl⟩ | ⟨hb, rfl⟩
    · exact ⟨ha, by rw [List.length_map]; exact hl, vs, _, rv, by subst hos; exact ha⟩
    · obtain ⟨k1, k0, ⟨its, n, k2, k3, k4⟩⟩ := held.at_ b o' us h1
      exact ⟨k1, by rw [k4.length]; simpa using k3, its.toList, k4, ⟨o', k1, k0, n, by simpa using k2⟩⟩
    · exact isT hb
  have base_of : ∀ {b : Addr} {o : Obj}, s₁.heap.get? b = some o → seqO o = false → (o = { cls := .none, data := .fields #[] } → False) → (hidT s₁.heap (hp0 T ts a os ns)).get? b = some o := fun {b o} e n n2 => hidT_get e (by
    cases q : hp0 T ts a os ns b with
    | none => rfl
    | some u =>
      rcases seq_of q e with z | z
      · rw [z] at n; cases n
      · exact absurd z n2)
  have hKb : K.In (hidT s₁.heap (hp0 T ts a os ns)) := fun b o e => base_of (KX b o e) (noseq b o e) fun z => by
    have := lt.out b o e
    rw [z] at this
    cases this
  have nsK : ∀ {b : Addr} {m : Str → Option Value}, s₁.heap.Ns b m → (hidT s₁.heap (hp0 T ts a os ns)).Ns b m := fun {b m} ⟨o, es, ep, e, d, r⟩ => ⟨o, es, ep, base_of e (by unfold seqO; rw [d]) (fun z => by rw [z] at d; cases d), d, r⟩
  have hM : Mod K mg (hidT s₁.heap (hp0 T ts a os ns)) := ⟨hKb, nsK hns, ⟨mb, nsK hb, hbb⟩, let ⟨mc, h1, h2⟩ := hlim; ⟨mc, nsK h1, h2⟩⟩
  have e0 : Env0 P w K mg (hidT s₁.heap (hp0 T ts a os ns)) callerA [] s₁ (hp0 T ts a os ns) := ⟨rfl, hM, fun b o e => of_hidT e, Nat.le_of_eq (hidT_size _ _), trivial, fun b hb => absurd (show b ∈ ([] : List Addr) from hb) (by simp), hok, .of_eq hg⟩
  have TB : ∀ r ∈ c.lams, LamX.TabB (hidT s₁.heap (hp0 T ts a os ns)) mg (He.cT K r.d.at_).1 (He.cT K r.d.at_).2 := fun r hr => by
    have hTp := lt.em r hr
    refine ⟨PySem.W.codeHd_of_K hKb (lt.hd r hr), ?_, fun z => ?_⟩
    · obtain ⟨bm, ob, b1, b2, b3, b4, b5, b6⟩ := hbm
      have nG : bm ≠ mainGlobals := fun q => by
        obtain ⟨o, es, ep, e, hd, _⟩ := hns
        rw [q, e] at b3
        cases b3
        rw [hd] at b6
        cases b6
      have nP : bm ≠ (He.cT K r.d.at_).2 := fun q => by
        rw [q, hTp] at b3
        cases b3
        cases b6
      exact ⟨bm, ob, b1, b2, nG, nP, base_of b3 (by unfold seqO; rw [b6]) (fun z => by rw [z] at b6; cases b6), b4, b5, b6⟩
    · obtain ⟨o, es, ep, e, hd, _⟩ := hns
      rw [z, hTp] at e
      cases e
      cases hd
  have lev := level (P := P) (w := w) ok says hKb (nsK hns) TB lt.nd N
  obtain ⟨f, fdt, ps, m1, kp, bd, Df⟩ := lev.fn "law" _ _ _ ev
  have m1 : mg "law" = some (.ref f) := m1
  rw [hfa] at m1
  cases m1
  have hlen := Df.len _ _ _ ev
  have fsub : ∀ b o, fp0 T b = some o → ∃ q us, T b = some (q, us) ∧ o = .frz q (.tup us) := fun b o e => by
    obtain ⟨q, e1, e2⟩ := Option.map_eq_some_iff.mp e
    exact ⟨q.1, q.2, e1, e2.symm⟩
  have wd : Wd (c.pg P w K mg (hidT s₁.heap (hp0 T ts a os ns))) (fun _ => none) [.lck (.lst (ns.map D.int))] (fp0 T) [a] (hp0 T ts a os ns) := {
    sub := fun b o e => by
      obtain ⟨q, us, h1, rfl⟩ := fsub b o e
      exact .inl (H0b h1)
    con := fun x d e => by
      obtain ⟨gc, e1, e2⟩ := Option.map_eq_some_iff.mp e
      subst e2
      have hm := mem_of_lookup' e1
      cases gc with
      | one q =>
        obtain ⟨u, h1, h2⟩ := conB_one (con _ hm)
        exact ⟨u, q.v, PySem.W.mg_of hKb (nsK hns) h1, h2, cst_rep q⟩
      | many ks =>
        obtain ⟨h1, _⟩ := conB_many (con _ hm)
        obtain ⟨o, h2⟩ := tab_has con hm
        rw [hT] at h2
        exact ⟨.ref (He.ga K x), .ref (He.ga K x), PySem.W.mg_of hKb (nsK hns) h1, rfl, .ctup (.inr ⟨o, by unfold fp0; rw [h2]; rfl⟩) (csts_rep ks)⟩
    len := rfl
    nd := by simp
    cell := fun n cl b h1 h2 => by
      match n, h1, h2 with
      | 0, h1, h2 =>
        cases h1; cases h2
        refine ⟨by unfold fp0; rw [Ta]; rfl, ?_⟩
        exact ⟨os, ns.map .int, H0a, ints_reps ns⟩
      | n + 1, h1, h2 => simp at h1
    prot := fun b o e => by cases e
    tab := {
      t := fun q hq => .nil (H0t (by rw [← hts]; exact List.mem_map.mpr ⟨q, hq, rfl⟩))
      f := fun b ps e => by
        obtain ⟨q, us, _, z⟩ := fsub b _ e
        cases z
      p := fun b ps e => by cases e } }
  have bind := bd s₁ [.ref a] KX (by rw [List.append_nil]; exact hlen)
  rw [List.append_nil] at bind
  refine codeAny_mono (Df.run callerA [] s₁ (hp0 T ts a os ns) ⟨[.ref a], []⟩ [.ref a] [.ref a] _ _ _ _ _ (fp0 T) [a] hr rfl e0 bind (.cons rfl .nil) (.cons (.ref (n := 0) rfl) .nil) wd ev) fun r s' h => ?_
  obtain ⟨u, rfl, v, H', hos', bare, un, hok', ru, F', ι', W, _, _, rr⟩ := h
  cases rr
  obtain rfl : u = Value.bool true := ru
  have key : ∀ b o, b ∉ ts → s₁.heap.get? b = some o → s'.heap.get? b = some o := fun b o nb e => by
    cases q : hp0 T ts a os ns b with
    | none => exact un.keep b o e q (by intro z; exact absurd (show b ∈ ([] : List Addr) from z) (by simp)) (by simp)
    | some u =>
      have frz : ∃ ob x, u = .frz ob x := by
        rcases H0n q with ⟨_, rfl⟩ | ⟨_, _, _, rfl⟩ | ⟨hb, _⟩
        · exact ⟨_, _, rfl⟩
        · exact ⟨_, _, rfl⟩
        · exact absurd hb nb
      obtain ⟨ob, x, rfl⟩ := frz
      have z2 := un.frzs b ob _ q
      obtain ⟨e1, _⟩ := hok b _ q
      obtain ⟨e2, _⟩ := hok' b _ z2
      rw [e] at e1; cases e1
      exact e2
  have grown : ∀ b ∈ ts, ∃ more : Array Value, s'.heap.get? b = some { cls := .none, data := .fields more } := fun b hb => by
    obtain ⟨more, z⟩ := un.tbls b #[] (H0t hb)
    exact ⟨_, hok' b _ z⟩
  have isC : ∀ b ∈ ts, isCodeTable s₁.heap b := fun b hb => by
    subst hts
    obtain ⟨q, hq, rfl⟩ := List.mem_map.mp hb
    obtain ⟨r, hr, rfl⟩ := List.mem_map.mp hq
    exact ((PySem.W.codeHd_of_K KX (lt.hd r hr)).tab (lt.em r hr)).isCodeTable
  refine ⟨rfl, ⟨fun b o e => ?_, fun b o e => ?_⟩, hos', bare⟩
  · by_cases hb : b ∈ ts
    · obtain ⟨more, hm⟩ := grown b hb
      rw [isT hb] at e
      cases e
      exact .inr (.inl ⟨isC b hb, rfl, #[], more, rfl, by rw [Array.empty_append]; exact hm⟩)
    · exact .inl (key b o hb e)
  · by_cases hb : b ∈ ts
    · obtain ⟨more, hm⟩ := grown b hb
      exact ⟨_, hm⟩
    · exact ⟨o, key b o hb e⟩
end
theorem law_z {l : PySem.W.OpenLaw} {n N h : Nat} {q : Program} {loose : List Str} {XP : (Str → Option Value) → Heap → Prop} {d : DefRec} (c : Conf) (ok : c.ok = true) (hn : l.most = some n) (hn2 : n ≤ sizeLine) (hdf : d.params.defaults = []) (hname : d.name = ("law" : Str)) (hr : Room (2 * N) callerA)
    (ev : ∀ ns : List Int, ns.length ≤ n → ∃ S', runF c.prog N ("law", none) [.ref 0] [.lck (.lst (ns.map D.int))] = some (.bl true, S')) :
    PySem.W.WalkO q loose XP (hookZ h c).says l.row.toRowW d [] (fun f vs => PySem.call f vs) := by
  refine Att.attach_call hn hdf fun w s₀ s₁ mg mb fa o pm cd doc a vs ns G Y ho hd hcd hmg hobj hints hlen hg => ?_
  obtain ⟨K, KX, noseq, says, con, lt⟩ := Y
  obtain ⟨S', ev⟩ := ev ns hlen
  rw [hname] at hmg
  exact law_run ok says noseq con lt G.T.bmain KX G.T.g G.T.b G.T.builtins G.T.nolimit hg hobj hints (Nat.le_trans hlen hn2) hr hmg ev
end Z

set_option Elab.async false
set_option linter.all false
set_option maxRecDepth 100000
set_option maxHeartbeats 4000000
namespace Z
open PySem PySem.Spec PyProof.Rows L2

/-! # reckoning with the evaluator -/
theorem eqD_int (a b : Int) : eqD (.int a) (.int b) = decide (a = b) := by simp only [eqD, D.py, PyData.eqv]; exact Bool.beq_eq_decide_eq a b
theorem eqD_str (a b : Str) : eqD (.str a) (.str b) = decide (a = b) := by simp only [eqD, D.py, PyData.eqv]; exact Bool.beq_eq_decide_eq a b
theorem eqD_bl (a b : Bool) : eqD (.bl a) (.bl b) = (a == b) := by simp only [eqD, D.py, PyData.eqv]
theorem eqD_non : eqD .non .non = true := by simp only [eqD, D.py, PyData.eqv]
theorem eqD_tup (xs ys : List D) : eqD (.tup xs) (.tup ys) = PyData.eqvAll (pys xs) (pys ys) := by simp only [eqD, D.py, PyData.eqv]
theorem eqD_lst (xs ys : List D) : eqD (.lst xs) (.lst ys) = PyData.eqvAll (pys xs) (pys ys) := by simp only [eqD, D.py, PyData.eqv]
theorem eqA_cons (x y : D) (xs ys : List D) : PyData.eqvAll (pys (x :: xs)) (pys (y :: ys)) = (eqD x y && PyData.eqvAll (pys xs) (pys ys)) := by simp only [pys, PyData.eqvAll, eqD]
theorem eqA_nil : PyData.eqvAll (pys []) (pys []) = true := by simp only [pys, PyData.eqvAll]
theorem eqA_l (x : D) (xs : List D) : PyData.eqvAll (pys (x :: xs)) (pys []) = false := by simp only [pys, PyData.eqvAll]
theorem eqA_r (x : D) (xs : List D) : PyData.eqvAll (pys []) (pys (x :: xs)) = false := by simp only [pys, PyData.eqvAll]
theorem ltD_int (a b : Int) : ltD (.int a) (.int b) = decide (a < b) := by simp only [ltD, D.py]; exact PySem.W.dataLt_int a b
theorem ltD_str (a b : Str) : ltD (.str a) (.str b) = decide (a.cps.toList < b.cps.toList) := by simp only [ltD, D.py]; exact PySem.W.dataLt_str a b
theorem ltD_cons (x y : D) (xs ys : List D) (h : likeD x y = true) : ltD (.tup (x :: xs)) (.tup (y :: ys)) = if eqD x y = true then ltD (.tup xs) (.tup ys) else ltD x y := by
  unfold ltD likeD eqD at *
  simp only [D.py, pys]
  rw [PySem.W.dataLt_tuple]
  by_cases e : PyData.eqv x.py y.py = true
  · rw [if_pos e, PySem.W.dataLt_all_yes h e, PySem.W.dataLt_tuple]
  · rw [if_neg e, PySem.W.dataLt_all_no h (by simpa using e)]
theorem ltD_nil : ltD (.tup []) (.tup []) = false := by
  unfold ltD
  simp only [D.py, pys]
  rw [PySem.W.dataLt_tuple]
  simp [PySem.W.keyToksAll, PyProof.Rows.lexLt]
  rfl
theorem like_int (a b : Int) : likeD (.int a) (.int b) = true := by simp only [likeD, D.py, PySem.W.alike]
theorem like_str (a b : Str) : likeD (.str a) (.str b) = true := by simp only [likeD, D.py, PySem.W.alike]
theorem like_tup (xs ys : List D) : likeD (.tup xs) (.tup ys) = PySem.W.alikeAll (pys xs) (pys ys) := by simp only [likeD, D.py, PySem.W.alike]
theorem likeA_cons (x y : D) (xs ys : List D) : PySem.W.alikeAll (pys (x :: xs)) (pys (y :: ys)) = (likeD x y && PySem.W.alikeAll (pys xs) (pys ys)) := by simp only [likeD, pys, PySem.W.alikeAll]
theorem likeA_nil (ys : List D) : PySem.W.alikeAll (pys []) (pys ys) = true := by simp only [pys, PySem.W.alikeAll]
theorem fit_int (a : Int) : (D.int a).fit = true := by simp [D.fit, D.plain, D.dep, D.py, PyData.depth]
theorem fit_bl (a : Bool) : (D.bl a).fit = true := by simp [D.fit, D.plain, D.dep, D.py, PyData.depth]
theorem fit_non : D.non.fit = true := by simp [D.fit, D.plain, D.dep, D.py, PyData.depth]
theorem fit_str (a : Str) : (D.str a).fit = PyData.strOk a := by simp [D.fit, D.plain, D.dep, D.py, PyData.depth]
theorem stlt (a b c d : Int) : ltD (.tup [.int a, .int b]) (.tup [.int c, .int d]) = decide (a < c ∨ (a = c ∧ b < d)) := by
  rw [ltD_cons _ _ _ _ (like_int a c), ltD_cons _ _ _ _ (like_int b d), eqD_int, eqD_int, ltD_int, ltD_int, ltD_nil]
  by_cases h : a = c <;> by_cases h2 : b = d <;> simp [h, h2]
end Z

set_option Elab.async false
set_option linter.all false
set_option maxRecDepth 100000
set_option maxHeartbeats 4000000
namespace Z
open PySem PySem.Spec PyProof.Rows L2
/-! # the same, step by step: what comes behind a step stands where simp does not look -/
class Kn (α β : Type) where
  f : α → β
def bnd {α β : Type} (a : Option α) [k : Kn α (Option β)] : Option β := a.bind k.f
def mp {α β : Type} (a : Option α) [k : Kn α β] : Option β := a.map k.f
@[simp] theorem bnd_some {α β : Type} (x : α) (f : α → Option β) : @bnd α β (some x) ⟨f⟩ = f x := rfl
@[simp] theorem bnd_none {α β : Type} (f : α → Option β) : @bnd α β none ⟨f⟩ = none := rfl
@[simp] theorem mp_some {α β : Type} (x : α) (f : α → β) : @mp α β (some x) ⟨f⟩ = some (f x) := rfl
@[simp] theorem mp_none {α β : Type} (f : α → β) : @mp α β none ⟨f⟩ = none := rfl
@[simp] theorem x_evE_var {G : Fns} {i} {ρ : Env'} {S : Store} : evE G (.var i) ρ S = match ρ[i]? with
    | some (.fz d) => some (d, S)
    | _ => none := by
  rw [evE]; try rfl
@[simp] theorem x_evE_cst {G : Fns} {c} {ρ : Env'} {S : Store} : evE G (.cst c) ρ S = some (c.d, S) := by
  rw [evE]; try rfl
@[simp] theorem x_evE_glb {G : Fns} {w1 g} {ρ : Env'} {S : Store} : evE G (.glb w1 g) ρ S = some (g.d, S) := by
  rw [evE]; try rfl
@[simp] theorem x_evE_bin {G : Fns} {o a b} {ρ : Env'} {S : Store} : evE G (.bin o a b) ρ S = bnd (hOf a ρ S (evE G a ρ S)) (k := ⟨fun x => bnd (hOf b ρ x.2 (evE G b ρ x.2)) (k := ⟨fun y =>
      bnd (cont ρ y.2 x.1) (k := ⟨fun u => bnd (cont ρ y.2 y.1) (k := ⟨fun v => mp (binD o u v) (k := ⟨fun d => (d, y.2)⟩)⟩)⟩)⟩)⟩) := by
  rw [evE]; try rfl
@[simp] theorem x_evE_neg {G : Fns} {a} {ρ : Env'} {S : Store} : evE G (.neg a) ρ S = bnd (evE G a ρ S) (k := ⟨fun x => mp (intOf x.1) (k := ⟨fun i => (.int (-i), x.2)⟩)⟩) := by
  rw [evE]; try rfl
@[simp] theorem x_evE_not {G : Fns} {a} {ρ : Env'} {S : Store} : evE G (.not a) ρ S = bnd (evE G a ρ S) (k := ⟨fun x => mp (blOf x.1) (k := ⟨fun b => (.bl (!b), x.2)⟩)⟩) := by
  rw [evE]; try rfl
@[simp] theorem x_evE_and {G : Fns} {a b} {ρ : Env'} {S : Store} : evE G (.and a b) ρ S = bnd (evE G a ρ S) (k := ⟨fun x => bnd (blOf x.1) (k := ⟨fun c => if c then evE G b ρ x.2 else some (.bl false, x.2)⟩)⟩) := by
  rw [evE]; try rfl
@[simp] theorem x_evE_or {G : Fns} {a b} {ρ : Env'} {S : Store} : evE G (.or a b) ρ S = bnd (evE G a ρ S) (k := ⟨fun x => bnd (blOf x.1) (k := ⟨fun c => if c then some (.bl true, x.2) else evE G b ρ x.2⟩)⟩) := by
  rw [evE]; try rfl
@[simp] theorem x_evE_ife {G : Fns} {c a b} {ρ : Env'} {S : Store} : evE G (.ife c a b) ρ S = bnd (evE G c ρ S) (k := ⟨fun x => bnd (blOf x.1) (k := ⟨fun c => if c then evE G a ρ x.2 else evE G b ρ x.2⟩)⟩) := by
  rw [evE]; try rfl
@[simp] theorem x_evE_cmp {G : Fns} {o a b} {ρ : Env'} {S : Store} : evE G (.cmp o a b) ρ S = bnd (hOf a ρ S (evE G a ρ S)) (k := ⟨fun x => bnd (hOf b ρ x.2 (evE G b ρ x.2)) (k := ⟨fun y =>
      bnd (cont ρ y.2 x.1) (k := ⟨fun u => bnd (cont ρ y.2 y.1) (k := ⟨fun v => mp (cmpD o u v) (k := ⟨fun c => (.bl c, y.2)⟩)⟩)⟩)⟩)⟩) := by
  rw [evE]; try rfl
@[simp] theorem x_evE_chn {G : Fns} {o o' a b c} {ρ : Env'} {S : Store} : evE G (.chn o o' a b c) ρ S = bnd (hOf a ρ S (evE G a ρ S)) (k := ⟨fun x => bnd (hOf b ρ x.2 (evE G b ρ x.2)) (k := ⟨fun y =>
      bnd (cont ρ y.2 x.1) (k := ⟨fun u => bnd (cont ρ y.2 y.1) (k := ⟨fun v => bnd (cmpD o u v) (k := ⟨fun r =>
        if r then bnd (hOf c ρ y.2 (evE G c ρ y.2)) (k := ⟨fun z => bnd (cont ρ z.2 y.1) (k := ⟨fun v' => bnd (cont ρ z.2 z.1) (k := ⟨fun w => mp (cmpD o' v' w) (k := ⟨fun c => (.bl c, z.2)⟩)⟩)⟩)⟩) else some (.bl false, y.2)⟩)⟩)⟩)⟩)⟩) := by
  rw [evE]; try rfl
@[simp] theorem x_evE_iso {G : Fns} {n a b} {ρ : Env'} {S : Store} : evE G (.iso n a b) ρ S = bnd (evE G a ρ S) (k := ⟨fun x => bnd (evE G b ρ x.2) (k := ⟨fun y => mp (isoD x.1 n y.1) (k := ⟨fun d => (d, y.2)⟩)⟩)⟩) := by
  rw [evE]; try rfl
@[simp] theorem x_evE_tup {G : Fns} {as} {ρ : Env'} {S : Store} : evE G (.tup as) ρ S = bnd (evA G as ρ S) (k := ⟨fun x => if x.1.length ≤ sizeLine then some (.tup x.1, x.2) else none⟩) := by
  rw [evE]; try rfl
@[simp] theorem x_evE_list {G : Fns} {as} {ρ : Env'} {S : Store} : evE G (.list as) ρ S = bnd (evA G as ρ S) (k := ⟨fun x => if x.1.length ≤ sizeLine then some (.lst x.1, x.2) else none⟩) := by
  rw [evE]; try rfl
@[simp] theorem x_evE_dnew {G : Fns} {t} {ρ : Env'} {S : Store} : evE G (.dnew t) ρ S = some (if t then .dT [] else .dK [], S) := by
  rw [evE]; try rfl
@[simp] theorem x_evE_disp {G : Fns} {ks vs} {ρ : Env'} {S : Store} : evE G (.disp ks vs) ρ S = bnd (evA G ks ρ S) (k := ⟨fun x => bnd (evA G vs ρ x.2) (k := ⟨fun y => bnd (dsp x.1 y.1) (k := ⟨fun es =>
      if es.length ≤ 15 then some (.dK (es.foldl (fun acc e => dput acc e.1 e.2) []), y.2) else none⟩)⟩)⟩) := by
  rw [evE]; try rfl
@[simp] theorem x_evE_idx {G : Fns} {a b} {ρ : Env'} {S : Store} : evE G (.idx a b) ρ S = bnd (hOf a ρ S (evE G a ρ S)) (k := ⟨fun x => bnd (evE G b ρ x.2) (k := ⟨fun y =>
      bnd (cont ρ y.2 x.1) (k := ⟨fun u => mp (idxD u y.1) (k := ⟨fun d => (d, y.2)⟩)⟩)⟩)⟩) := by
  rw [evE]; try rfl
@[simp] theorem x_evE_sl {G : Fns} {a lo hi} {ρ : Env'} {S : Store} : evE G (.sl a lo hi) ρ S = bnd (hOf a ρ S (evE G a ρ S)) (k := ⟨fun x => bnd (evA G lo ρ x.2) (k := ⟨fun y => bnd (evA G hi ρ y.2) (k := ⟨fun z =>
      bnd (cont ρ z.2 x.1) (k := ⟨fun u => bnd (ixO y.1) (k := ⟨fun lo => bnd (ixO z.1) (k := ⟨fun hi => mp (slD u lo hi) (k := ⟨fun d => (d, z.2)⟩)⟩)⟩)⟩)⟩)⟩)⟩) := by
  rw [evE]; try rfl
@[simp] theorem x_evE_rev {G : Fns} {a} {ρ : Env'} {S : Store} : evE G (.rev a) ρ S = bnd (hOf a ρ S (evE G a ρ S)) (k := ⟨fun x => bnd (cont ρ x.2 x.1) (k := ⟨fun u => match u with
      | .lst xs => some (.lst xs.reverse, x.2)
      | _ => none⟩)⟩) := by
  rw [evE]; try rfl
@[simp] theorem x_evE_fld {G : Fns} {a f} {ρ : Env'} {S : Store} : evE G (.fld a f) ρ S = bnd (evE G a ρ S) (k := ⟨fun x => match x.1 with
      | .ref n => (match x.2[n]? with
        | some (.ins C fs) => if G.fld C f then mp (fs.lookup f) (k := ⟨fun d => (d, x.2)⟩) else none
        | _ => none)
      | _ => none⟩) := by
  rw [evE]; try rfl
@[simp] theorem x_evE_call {G : Fns} {f as} {ρ : Env'} {S : Store} : evE G (.call f as) ρ S = bnd (evA G as ρ S) (k := ⟨fun x => G.fn (f, none) x.1 x.2⟩) := by
  rw [evE]; try rfl
@[simp] theorem x_evE_mk {G : Fns} {as} {ρ : Env'} {S : Store} : evE G (.mk C as) ρ S = bnd (evA G as ρ S) (k := ⟨fun x => bnd (G.fn (C, some "__init__") (.ref x.2.length :: x.1) (x.2 ++ [.ins C []])) (k := ⟨fun y => match y.1 with
      | .non => some (.ref x.2.length, y.2)
      | _ => none⟩)⟩) := by
  rw [evE]; try rfl
@[simp] theorem x_evE_meth {G : Fns} {o m as} {ρ : Env'} {S : Store} : evE G (.meth o m as) ρ S = bnd (evE G o ρ S) (k := ⟨fun x => match x.1 with
      | .ref n => (match x.2[n]? with
        | some (.ins C fs) => if (fs.lookup m).isNone then bnd (evA G as ρ x.2) (k := ⟨fun y => G.fn (C, some m) (.ref n :: y.1) y.2⟩) else none
        | _ => none)
      | _ => none⟩) := by
  rw [evE]; try rfl
@[simp] theorem x_evE_blt {G : Fns} {b as} {ρ : Env'} {S : Store} : evE G (.blt b as) ρ S = bnd (evH G as ρ S) (k := ⟨fun x => bnd (x.1.mapM (cont ρ x.2)) (k := ⟨fun ds => mp (bltD b ds) (k := ⟨fun d => (d, x.2)⟩)⟩)⟩) := by
  rw [evE]; try rfl
@[simp] theorem x_evE_get {G : Fns} {o k} {ρ : Env'} {S : Store} : evE G (.get o k) ρ S = bnd (hOf o ρ S (evE G o ρ S)) (k := ⟨fun x => if isDct (cont ρ x.2 x.1) then bnd (evE G k ρ x.2) (k := ⟨fun y =>
      bnd (cont ρ y.2 x.1) (k := ⟨fun u => mp (dget u y.1) (k := ⟨fun r => (r.getD .non, y.2)⟩)⟩)⟩) else none⟩) := by
  rw [evE]; try rfl
@[simp] theorem x_evE_getd {G : Fns} {o k d} {ρ : Env'} {S : Store} : evE G (.getd o k d) ρ S = bnd (hOf o ρ S (evE G o ρ S)) (k := ⟨fun x => if isDct (cont ρ x.2 x.1) then bnd (evE G k ρ x.2) (k := ⟨fun y => bnd (evE G d ρ y.2) (k := ⟨fun z =>
      bnd (cont ρ z.2 x.1) (k := ⟨fun u => mp (dget u y.1) (k := ⟨fun r => (r.getD z.1, z.2)⟩)⟩)⟩)⟩) else none⟩) := by
  rw [evE]; try rfl
@[simp] theorem x_evE_mref {G : Fns} {e} {ρ : Env'} {S : Store} : evE G (.mref e) ρ S = bnd (evE G e ρ S) (k := ⟨fun x => newRef x.2 x.1⟩) := by
  rw [evE]; try rfl
@[simp] theorem x_evE_lrng {G : Fns} {a b} {ρ : Env'} {S : Store} : evE G (.lrng a b) ρ S = bnd (evE G a ρ S) (k := ⟨fun x => bnd (evE G b ρ x.2) (k := ⟨fun y => bnd (intOf x.1) (k := ⟨fun i => bnd (intOf y.1) (k := ⟨fun j => if smallI i && (smallI j && decide ((j - i).toNat ≤ 1000000)) then some (.lst (rngD i (j - i).toNat), y.2) else none⟩)⟩)⟩)⟩) := by
  rw [evE]; try rfl
@[simp] theorem x_evE_dcst {G : Fns} {kvs} {ρ : Env'} {S : Store} : evE G (.dcst kvs) ρ S = bnd (dsp (kvs.map fun q => q.1.d) (kvs.map fun q => q.2.d)) (k := ⟨fun es => if es.length ≤ 15 ∧ es ≠ [] then some (.dK (es.foldl (fun acc e => dput acc e.1 e.2) []), S) else none⟩) := by
  rw [evE]; try rfl
@[simp] theorem x_evE_dmrg {G : Fns} {a b} {ρ : Env'} {S : Store} : evE G (.dmrg a b) ρ S = bnd (hOf a ρ S (evE G a ρ S)) (k := ⟨fun x => bnd (cont ρ x.2 x.1) (k := ⟨fun u => bnd (hOf b ρ x.2 (evE G b ρ x.2)) (k := ⟨fun y => bnd (cont ρ y.2 y.1) (k := ⟨fun v => mp (mrgD u v) (k := ⟨fun d => (d, y.2)⟩)⟩)⟩)⟩)⟩) := by
  rw [evE]; try rfl
@[simp] theorem x_evE_skey {G : Fns} {f a} {ρ : Env'} {S : Store} : evE G (.skey f a) ρ S = bnd (hOf a ρ S (evE G a ρ S)) (k := ⟨fun x => bnd (cont ρ x.2 x.1) (k := ⟨fun u => match u with
      | .lst (y :: ys) => bnd (keysG (fun d => G.fn (f, none) [d] x.2) x.2 (y :: ys)) (k := ⟨fun ks => mp (sortByD (y :: ys) ks) (k := ⟨fun d => (d, x.2)⟩)⟩)
      | _ => none⟩)⟩) := by
  rw [evE]; try rfl
@[simp] theorem x_evE_sitm {G : Fns} {a} {ρ : Env'} {S : Store} : evE G (.sitm a) ρ S = bnd (hOf a ρ S (evE G a ρ S)) (k := ⟨fun x => bnd (cont ρ x.2 x.1) (k := ⟨fun u => mp (sitD u) (k := ⟨fun d => (d, x.2)⟩)⟩)⟩) := by
  rw [evE]; try rfl
@[simp] theorem x_evE_sdt {G : Fns} {a} {ρ : Env'} {S : Store} : evE G (.sdt a) ρ S = bnd (hOf a ρ S (evE G a ρ S)) (k := ⟨fun x => bnd (cont ρ x.2 x.1) (k := ⟨fun u => mp (sdtD u) (k := ⟨fun d => (d, x.2)⟩)⟩)⟩) := by
  rw [evE]; try rfl
@[simp] theorem x_evE_mdt {G : Fns} {a} {ρ : Env'} {S : Store} : evE G (.mdt a) ρ S = bnd (hOf a ρ S (evE G a ρ S)) (k := ⟨fun x => bnd (cont ρ x.2 x.1) (k := ⟨fun u => mp (mdtD u) (k := ⟨fun d => (d, x.2)⟩)⟩)⟩) := by
  rw [evE]; try rfl
@[simp] theorem x_evE_iss {G : Fns} {a} {ρ : Env'} {S : Store} : evE G (.iss a) ρ S = bnd (hOf a ρ S (evE G a ρ S)) (k := ⟨fun x => bnd (cont ρ x.2 x.1) (k := ⟨fun u => if u.plain then some (.bl (isStrD u), x.2) else none⟩)⟩) := by
  rw [evE]; try rfl
@[simp] theorem x_evE_lsl {G : Fns} {a lo hi} {ρ : Env'} {S : Store} : evE G (.lsl a lo hi) ρ S = bnd (hOf a ρ S (evE G a ρ S)) (k := ⟨fun x => bnd (evA G lo ρ x.2) (k := ⟨fun y => bnd (evA G hi ρ y.2) (k := ⟨fun z =>
      bnd (cont ρ z.2 x.1) (k := ⟨fun u => bnd (ixO y.1) (k := ⟨fun lo => bnd (ixO z.1) (k := ⟨fun hi => match u with
      | .lst xs => some (.lst (cutL xs lo hi), z.2)
      | _ => none⟩)⟩)⟩)⟩)⟩)⟩) := by
  rw [evE]; try rfl
@[simp] theorem x_evE_ist {G : Fns} {j a} {ρ : Env'} {S : Store} : evE G (.ist j a) ρ S = bnd (hOf a ρ S (evE G a ρ S)) (k := ⟨fun x => bnd (cont ρ x.2 x.1) (k := ⟨fun u => if u.plain then some (.bl (isTyD j u), x.2) else none⟩)⟩) := by
  rw [evE]; try rfl
@[simp] theorem x_evE_join {G : Fns} {x a} {ρ : Env'} {S : Store} : evE G (.join x a) ρ S = bnd (hOf a ρ S (evE G a ρ S)) (k := ⟨fun y => bnd (cont ρ y.2 y.1) (k := ⟨fun u => mp (joinD x u) (k := ⟨fun d => (d, y.2)⟩)⟩)⟩) := by
  rw [evE]; try rfl
@[simp] theorem x_evE_slam {G : Fns} {js a} {ρ : Env'} {S : Store} : evE G (.slam js a) ρ S = bnd (hOf a ρ S (evE G a ρ S)) (k := ⟨fun x => bnd (cont ρ x.2 x.1) (k := ⟨fun u => match u with
      | .lst ys => bnd (keysG (fun d => (cont [] x.2 (.val d)).bind fun v => (lamD js v).map fun y => (y, x.2)) x.2 ys) (k := ⟨fun ks => mp (sortByD ys ks) (k := ⟨fun d => (d, x.2)⟩)⟩)
      | _ => none⟩)⟩) := by
  rw [evE]; try rfl
@[simp] theorem x_evE_sst {G : Fns} {a} {ρ : Env'} {S : Store} : evE G (.sst a) ρ S = bnd (hOf a ρ S (evE G a ρ S)) (k := ⟨fun x => bnd (cont ρ x.2 x.1) (k := ⟨fun u => mp (sstD u) (k := ⟨fun d => (d, x.2)⟩)⟩)⟩) := by
  rw [evE]; try rfl
@[simp] theorem x_evE_lix {G : Fns} {o a} {ρ : Env'} {S : Store} : evE G (.lix o a) ρ S = bnd (hOf o ρ S (evE G o ρ S)) (k := ⟨fun x => bnd (evE G a ρ x.2) (k := ⟨fun y => if kindD (cont ρ x.2 x.1) = kindD (cont ρ y.2 x.1) then bnd (cont ρ y.2 x.1) (k := ⟨fun u => mp (lixD u y.1) (k := ⟨fun d => (d, y.2)⟩)⟩) else none⟩)⟩) := by
  rw [evE]; try rfl
@[simp] theorem x_evA_nil {G : Fns} {ρ : Env'} {S : Store} : evA G (.nil) ρ S = some ([], S) := by
  rw [evA]; try rfl
@[simp] theorem x_evA_cons {G : Fns} {e as} {ρ : Env'} {S : Store} : evA G (.cons e as) ρ S = bnd (evE G e ρ S) (k := ⟨fun x => mp (evA G as ρ x.2) (k := ⟨fun y => (x.1 :: y.1, y.2)⟩)⟩) := by
  rw [evA]; try rfl
@[simp] theorem x_evH_nil {G : Fns} {ρ : Env'} {S : Store} : evH G (.nil) ρ S = some ([], S) := by
  rw [evH]; try rfl
@[simp] theorem x_evH_cons {G : Fns} {e as} {ρ : Env'} {S : Store} : evH G (.cons e as) ρ S = bnd (hOf e ρ S (evE G e ρ S)) (k := ⟨fun x => mp (evH G as ρ x.2) (k := ⟨fun y => (x.1 :: y.1, y.2)⟩)⟩) := by
  rw [evH]; try rfl
@[simp] theorem x_evI_seq {G : Fns} {e} {ρ : Env'} {S : Store} : evI G (.seq e) ρ S = bnd (hOf e ρ S (evE G e ρ S)) (k := ⟨fun x => bnd (cont ρ x.2 x.1) (k := ⟨fun u => mp (itemsIn u) (k := ⟨fun xs => (x.1, xs, x.2)⟩)⟩)⟩) := by
  rw [evI]; try rfl
@[simp] theorem x_evI_rng {G : Fns} {a} {ρ : Env'} {S : Store} : evI G (.rng a) ρ S = bnd (evE G a ρ S) (k := ⟨fun x => bnd (intOf x.1) (k := ⟨fun j => if smallI j then some (.val .non, rngD 0 j.toNat, x.2) else none⟩)⟩) := by
  rw [evI]; try rfl
@[simp] theorem x_evI_rng2 {G : Fns} {a b} {ρ : Env'} {S : Store} : evI G (.rng2 a b) ρ S = bnd (evE G a ρ S) (k := ⟨fun x => bnd (evE G b ρ x.2) (k := ⟨fun y => bnd (intOf x.1) (k := ⟨fun i => bnd (intOf y.1) (k := ⟨fun j => if smallI i && smallI j then some (.val .non, rngD i (j - i).toNat, y.2) else none⟩)⟩)⟩)⟩) := by
  rw [evI]; try rfl
@[simp] theorem x_evI_items {G : Fns} {e} {ρ : Env'} {S : Store} : evI G (.items e) ρ S = bnd (hOf e ρ S (evE G e ρ S)) (k := ⟨fun x => bnd (cont ρ x.2 x.1) (k := ⟨fun u => mp (itemsOf u) (k := ⟨fun xs => (x.1, xs, x.2)⟩)⟩)⟩) := by
  rw [evI]; try rfl
@[simp] theorem x_evS_asg {G : Fns} {t e} {ρ : Env'} {S : Store} : evS G (.asg t e) ρ S = bnd (evE G e ρ S) (k := ⟨fun x => mp (bindT t x.1 ρ) (k := ⟨fun ρ' => .nxt ρ' x.2⟩)⟩) := by
  rw [evS]; try rfl
@[simp] theorem x_evS_own {G : Fns} {i e} {ρ : Env'} {S : Store} : evS G (.own i e) ρ S = if isFresh e then bnd (evE G e ρ S) (k := ⟨fun x => match x.1 with
      | .lst xs => some (.nxt (ρ.set i (.own (.lst xs))) x.2)
      | .dK xs => some (.nxt (ρ.set i (.own (.dK xs))) x.2)
      | .dT xs => some (.nxt (ρ.set i (.own (.dT xs))) x.2)
      | _ => none⟩) else none := by
  rw [evS]; try rfl
@[simp] theorem x_evS_par {G : Fns} {is es} {ρ : Env'} {S : Store} : evS G (.par is es) ρ S = bnd (evA G es ρ S) (k := ⟨fun x => if x.1.length = is.length then some (.nxt ((is.zip x.1).foldl (fun ρ p => ρ.set p.1 (.fz p.2)) ρ) x.2) else none⟩) := by
  rw [evS]; try rfl
@[simp] theorem x_evS_setf {G : Fns} {o f e} {ρ : Env'} {S : Store} : evS G (.setf o f e) ρ S = bnd (evE G e ρ S) (k := ⟨fun x => bnd (evE G o ρ x.2) (k := ⟨fun y => match y.1 with
      | .ref n => mp (setF G y.2 n f x.1) (k := ⟨fun S' => .nxt ρ S'⟩)
      | _ => none⟩)⟩) := by
  rw [evS]; try rfl
@[simp] theorem x_evS_seti {G : Fns} {o k e} {ρ : Env'} {S : Store} : evS G (.seti o k e) ρ S = bnd (evE G e ρ S) (k := ⟨fun x => bnd (hOf o ρ x.2 (evE G o ρ x.2)) (k := ⟨fun y => bnd (evE G k ρ y.2) (k := ⟨fun z =>
      bnd (cont ρ z.2 y.1) (k := ⟨fun u => bnd (setItem' u z.1 x.1) (k := ⟨fun d => mp (putC ρ z.2 y.1 d) (k := ⟨fun q => .nxt q.1 q.2⟩)⟩)⟩)⟩)⟩)⟩) := by
  rw [evS]; try rfl
@[simp] theorem x_evS_app {G : Fns} {o e} {ρ : Env'} {S : Store} : evS G (.app o e) ρ S = bnd (hOf o ρ S (evE G o ρ S)) (k := ⟨fun x => if isLst (cont ρ x.2 x.1) then bnd (evE G e ρ x.2) (k := ⟨fun y => bnd (cont ρ y.2 x.1) (k := ⟨fun u => match u with
      | .lst xs => if xs.length < sizeLine then mp (putC ρ y.2 x.1 (.lst (xs ++ [y.1]))) (k := ⟨fun q => .nxt q.1 q.2⟩) else none
      | _ => none⟩)⟩) else none⟩) := by
  rw [evS]; try rfl
@[simp] theorem x_evS_pop {G : Fns} {t o as} {ρ : Env'} {S : Store} : evS G (.pop t o as) ρ S = bnd (hOf o ρ S (evE G o ρ S)) (k := ⟨fun x => bnd (evA G as ρ x.2) (k := ⟨fun y => if isLst (cont ρ x.2 x.1) = isLst (cont ρ y.2 x.1) ∧ isDct (cont ρ x.2 x.1) = isDct (cont ρ y.2 x.1) then bnd (cont ρ y.2 x.1) (k := ⟨fun u => bnd (popD u y.1) (k := ⟨fun r =>
      bnd (putC ρ y.2 x.1 r.2) (k := ⟨fun q => match t with
      | none => some (.nxt q.1 q.2)
      | some t => mp (bindT t r.1 q.1) (k := ⟨fun ρ' => .nxt ρ' q.2⟩)⟩)⟩)⟩) else none⟩)⟩) := by
  rw [evS]; try rfl
@[simp] theorem x_evS_expr {G : Fns} {e} {ρ : Env'} {S : Store} : evS G (.expr e) ρ S = mp (evE G e ρ S) (k := ⟨fun x => .nxt ρ x.2⟩) := by
  rw [evS]; try rfl
@[simp] theorem x_evS_augf {G : Fns} {o f p e} {ρ : Env'} {S : Store} : evS G (.augf o f p e) ρ S = bnd (evE G o ρ S) (k := ⟨fun x => match x.1 with
      | .ref n => (match x.2[n]? with
        | some (.ins C fs) => if G.fld C f = true then (match fs.lookup f with
          | some (.int a) => bnd (evE G e ρ x.2) (k := ⟨fun y => (match y.1, p, y.2[n]? with
            | .int b, .Add, some (.ins C' _) => if C' = C then mp (setF G y.2 n f (.int (a + b))) (k := ⟨fun S' => .nxt ρ S'⟩) else none
            | _, _, _ => none)⟩)
          | _ => none) else none
        | _ => none)
      | _ => none⟩) := by
  rw [evS]; try rfl
@[simp] theorem x_evS_aug {G : Fns} {i o e} {ρ : Env'} {S : Store} : evS G (.aug i o e) ρ S = bnd (evE G e ρ S) (k := ⟨fun x => match ρ[i]? with
      | some (.fz u) => (match u, x.1 with
        | .int a, .int b => (match o with
          | .Add => some (.nxt (ρ.set i (.fz (.int (a + b)))) x.2)
          | .Sub => some (.nxt (ρ.set i (.fz (.int (a - b)))) x.2)
          | _ => none)
        | _, _ => none)
      | _ => none⟩) := by
  rw [evS]; try rfl
@[simp] theorem x_evS_ife {G : Fns} {c a b} {ρ : Env'} {S : Store} : evS G (.ife c a b) ρ S = bnd (evE G c ρ S) (k := ⟨fun x => bnd (blOf x.1) (k := ⟨fun k => if k then evSs G a ρ x.2 else evSs G b ρ x.2⟩)⟩) := by
  rw [evS]; try rfl
theorem x_evS_for_ {G : Fns} {t it b} {ρ : Env'} {S : Store} : evS G (.for_ t it b) ρ S = bnd (evI G it ρ S) (k := ⟨fun w => if noSlot w.1 then bnd (lockS ρ w.2.2 w.1) (k := ⟨fun l =>
      bnd (forGo (fun S' ρ' => cont ρ' S' w.1 = cont ρ l.1 w.1) (fun d ρ' S' => bnd (bindT t d ρ') (k := ⟨fun ρ2 => evSs G b ρ2 S'⟩)) w.2.1 ρ l.1) (k := ⟨fun o => o.after l.2⟩)⟩) else none⟩) := by
  rw [evS]; try rfl
theorem x_evS_while_ {G : Fns} {c b} {ρ : Env'} {S : Store} : evS G (.while_ c b) ρ S = whGo (fun ρ' S' => bnd (evE G c ρ' S') (k := ⟨fun x => mp (blOf x.1) (k := ⟨fun k => (k, x.2)⟩)⟩)) (fun ρ' S' => evSs G b ρ' S') whMost ρ S := by
  rw [evS]; try rfl
@[simp] theorem x_evS_ret {G : Fns} {e} {ρ : Env'} {S : Store} : evS G (.ret e) ρ S = mp (evE G e ρ S) (k := ⟨fun x => .ret x.1 x.2⟩) := by
  rw [evS]; try rfl
@[simp] theorem x_evS_retN {G : Fns} {ρ : Env'} {S : Store} : evS G (.retN) ρ S = some (.ret .non S) := by
  rw [evS]; try rfl
@[simp] theorem x_evS_brk {G : Fns} {ρ : Env'} {S : Store} : evS G (.brk) ρ S = some (.brk ρ S) := by
  rw [evS]; try rfl
@[simp] theorem x_evS_cnt {G : Fns} {ρ : Env'} {S : Store} : evS G (.cnt) ρ S = some (.cnt ρ S) := by
  rw [evS]; try rfl
@[simp] theorem x_evS_pass {G : Fns} {ρ : Env'} {S : Store} : evS G (.pass) ρ S = some (.nxt ρ S) := by
  rw [evS]; try rfl
@[simp] theorem x_evSs_nil {G : Fns} {ρ : Env'} {S : Store} : evSs G (.nil) ρ S = some (.nxt ρ S) := by
  rw [evSs]; try rfl
@[simp] theorem x_evSs_cons {G : Fns} {s r} {ρ : Env'} {S : Store} : evSs G (.cons s r) ρ S = bnd (evS G s ρ S) (k := ⟨fun o => match o with
    | .nxt ρ' S' => evSs G r ρ' S'
    | .ret d S' => some (.ret d S')
    | .brk ρ' S' => some (.brk ρ' S')
    | .cnt ρ' S' => some (.cnt ρ' S')⟩) := by
  rw [evSs]; try rfl
@[simp] theorem x_evSs_dead {G : Fns} {ρ : Env'} {S : Store} : evSs G (.dead) ρ S = none := by
  rw [evSs]
@[simp] theorem x_evSs_frz {G : Fns} {i r} {ρ : Env'} {S : Store} : evSs G (.frz i r) ρ S = match ρ[i]? with
    | some (.own d) => evSs G r (ρ.set i (.fz d)) S
    | _ => none := by
  rw [evSs]; try rfl
end Z

set_option Elab.async false
set_option linter.all false
set_option maxRecDepth 100000
set_option maxHeartbeats 4000000
namespace Z
open PySem PySem.Spec PyProof.Rows L2
theorem fit_st (a b : Int) : (D.tup [.int a, .int b]).fit = true := by
  simp [D.fit, D.plain, plains, D.dep, D.py, pys, PyData.depth, PyData.depthAll]
theorem like_st (a b c d : Int) : likeD (.tup [.int a, .int b]) (.tup [.int c, .int d]) = true := by
  simp [like_tup, likeA_cons, likeA_nil, like_int]
theorem okAll_st (a b c d : Int) : okAll [.tup [.int a, .int b], .tup [.int c, .int d]] = true := by
  simp [okAll, fits, D.fit, D.plain, plains, D.dep, D.py, pys, PyData.depth, PyData.depthAll, like_st, D.isNon]
theorem max_st (a b c d : Int) : bltD .max [.tup [.int a, .int b], .tup [.int c, .int d]] = some (if a < c ∨ (a = c ∧ b < d) then .tup [.int c, .int d] else .tup [.int a, .int b]) := by
  simp only [bltD, okAll_st, if_true, maxD, List.foldl_cons, List.foldl_nil, stlt, decide_eq_true_eq]
theorem ne_st (a b c d : Int) : cmpD .NotEq (.tup [.int a, .int b]) (.tup [.int c, .int d]) = some (!decide (a = c ∧ b = d)) := by
  simp [cmpD, okEq, fit_st, eqD_tup, eqA_cons, eqA_nil, eqD_int, Bool.decide_and]
theorem eq_st (a b c d : Int) : cmpD .Eq (.tup [.int a, .int b]) (.tup [.int c, .int d]) = some (decide (a = c ∧ b = d)) := by
  simp [cmpD, okEq, fit_st, eqD_tup, eqA_cons, eqA_nil, eqD_int, Bool.decide_and]
theorem ne_st_non (a b : Int) : cmpD .NotEq (.tup [.int a, .int b]) .non = some true := by
  simp [cmpD, okEq, fit_st, fit_non, eqD, D.py, PyData.eqv]
theorem ne_non_st (a b : Int) : cmpD .NotEq .non (.tup [.int a, .int b]) = some true := by
  simp [cmpD, okEq, fit_st, fit_non, eqD, D.py, PyData.eqv]
theorem ne_non_non : cmpD .NotEq .non .non = some false := by
  simp [cmpD, okEq, fit_non, eqD, D.py, PyData.eqv]
theorem gt_st (a b c d : Int) : cmpD .Gt (.tup [.int a, .int b]) (.tup [.int c, .int d]) = some (decide (c < a ∨ (c = a ∧ d < b))) := by
  simp [cmpD, okLt, fit_st, like_st, D.isNon, stlt]
theorem eq_ii (a b : Int) : cmpD .Eq (.int a) (.int b) = some (decide (a = b)) := by simp [cmpD, okEq, fit_int, eqD_int]
theorem ne_ii (a b : Int) : cmpD .NotEq (.int a) (.int b) = some (!decide (a = b)) := by simp [cmpD, okEq, fit_int, eqD_int]
theorem lt_ii (a b : Int) : cmpD .Lt (.int a) (.int b) = some (decide (a < b)) := by simp [cmpD, okLt, fit_int, like_int, D.isNon, ltD_int]
theorem gt_ii (a b : Int) : cmpD .Gt (.int a) (.int b) = some (decide (b < a)) := by simp [cmpD, okLt, fit_int, like_int, D.isNon, ltD_int]
theorem le_ii (a b : Int) : cmpD .LtE (.int a) (.int b) = some (decide (a ≤ b)) := by
  simp only [cmpD, okLt, fit_int, like_int, D.isNon, ltD_int, Bool.not_false, Bool.and_self, if_true, Bool.and_true]
  congr 1
  by_cases h : b < a
  · have : ¬ a ≤ b := by omega
    simp [h, this]
  · have : a ≤ b := by omega
    simp [h, this]
theorem ge_ii (a b : Int) : cmpD .GtE (.int a) (.int b) = some (decide (b ≤ a)) := by
  simp only [cmpD, okLt, fit_int, like_int, D.isNon, ltD_int, Bool.not_false, Bool.and_self, if_true, Bool.and_true]
  congr 1
  by_cases h : a < b
  · have : ¬ b ≤ a := by omega
    simp [h, this]
  · have : b ≤ a := by omega
    simp [h, this]
theorem eq_ss (a b : Str) (ha : PyData.strOk a = true) (hb : PyData.strOk b = true) : cmpD .Eq (.str a) (.str b) = some (decide (a = b)) := by simp [cmpD, okEq, fit_str, ha, hb, eqD_str]
theorem ne_ss (a b : Str) (ha : PyData.strOk a = true) (hb : PyData.strOk b = true) : cmpD .NotEq (.str a) (.str b) = some (!decide (a = b)) := by simp [cmpD, okEq, fit_str, ha, hb, eqD_str]
theorem max_ii (a b : Int) : bltD .max [.int a, .int b] = some (.int (if b > a then b else a)) := rfl
theorem len2 : (2 : Nat) ≤ sizeLine := by decide
theorem len3 : (3 : Nat) ≤ sizeLine := by decide
end Z

set_option Elab.async false
set_option linter.all false
set_option maxRecDepth 100000
set_option maxHeartbeats 4000000
namespace Z
open PySem PySem.Spec PyProof.Rows L2
/-- the draws' state: where it stands, its cells -/
structure Rnd (S : Store) (st c : Nat) (pos : Int) (cs : List Int) : Prop where
  at_ : S[st]? = some (.con (.lst [.int pos, .ref c]))
  row : S[c]? = some (.con (.lst (cs.map .int)))
  ne : st ≠ c
  pos0 : 0 ≤ pos
  len : cs ≠ []
  nn : ∀ x ∈ cs, 0 ≤ x
theorem atI_nat {α : Type} {xs : List α} {i : Nat} (h : i < xs.length) : atI xs (i : Int) = xs[i]? := by
  unfold atI ixN
  have h1 : (0 : Int) ≤ (i : Int) := by omega
  have h2 : (i : Int) < (xs.length : Int) := by omega
  rw [if_pos h1, if_pos h2]
  simp
theorem atI0 {α : Type} (x : α) (xs : List α) : atI (x :: xs) 0 = some x := by
  have := atI_nat (xs := x :: xs) (i := 0) (by simp)
  simpa using this
theorem atI1 {α : Type} (x y : α) (xs : List α) : atI (x :: y :: xs) 1 = some y := by
  have := atI_nat (xs := x :: y :: xs) (i := 1) (by simp)
  simpa using this
theorem ixN_nat {n j : Nat} (h : j < n) : ixN n (j : Int) = some j := by
  unfold ixN
  rw [if_pos (by omega), if_pos (by omega)]
  simp
theorem Rnd.set {S : Store} {st c : Nat} {pos : Int} {cs : List Int} (R : Rnd S st c pos cs) (j : Nat) (x : Int) (hx : 0 ≤ x) : Rnd (S.set c (.con (.lst ((cs.set j x).map .int)))) st c pos (cs.set j x) where
  at_ := by rw [List.getElem?_set_ne R.ne.symm]; exact R.at_
  row := by
    have hl : c < S.length := (List.getElem?_eq_some_iff.mp R.row).1
    rw [List.getElem?_set_self hl]
  ne := R.ne
  pos0 := R.pos0
  len := by simp [R.len]
  nn := fun y hy => by
    rcases List.mem_or_eq_of_mem_set hy with h | h
    · exact R.nn y h
    · rw [h]; exact hx
theorem Rnd.next {S : Store} {st c : Nat} {pos : Int} {cs : List Int} (R : Rnd S st c pos cs) : Rnd (S.set st (.con (.lst [.int (pos + 1), .ref c]))) st c (pos + 1) cs where
  at_ := by
    have hl : st < S.length := (List.getElem?_eq_some_iff.mp R.at_).1
    rw [List.getElem?_set_self hl]
  row := by rw [List.getElem?_set_ne R.ne]; exact R.row
  ne := R.ne
  pos0 := by have := R.pos0; omega
  len := R.len
  nn := R.nn
/-- what a draw may do -/
def Drawn (S : Store) (st c : Nat) (most : Int) (v : Int) (S' : Store) : Prop := (0 < most → 0 ≤ v ∧ v < most) ∧ (¬ 0 < most → v = 0) ∧ (∃ pos cs, Rnd S' st c pos cs) ∧ S'.length = S.length ∧ ∀ k, k ≠ st → k ≠ c → S'[k]? = S[k]?
def bTake : Sms :=
      (.cons (.ife (.cmp .Lt (.var 1) (.cst (.int 1))) (.cons (.ret (.cst (.int 0)))
      .nil) .nil)
      (.cons (.asg (.nm 2) (.idx (.var 0) (.cst (.int 1))))
      (.cons (.asg (.nm 3) (.bin .Mod (.idx (.var 0) (.cst (.int 0))) (.blt .len (.cons (.var 2) .nil))))
      (.cons (.asg (.nm 4) (.idx (.var 2) (.var 3)))
      (.cons (.ife (.cmp .GtE (.var 4) (.cst (.int 1000000000000000000))) (.cons (.seti (.var 2) (.var 3) (.bin .FloorDiv (.var 4) (.var 1)))
      (.cons (.ret (.bin .Mod (.var 4) (.var 1)))
      .nil)) .nil)
      (.cons (.seti (.var 0) (.cst (.int 0)) (.bin .Add (.idx (.var 0) (.cst (.int 0))) (.cst (.int 1))))
      (.cons (.asg (.nm 5) (.bin .Mod (.blt .int (.cons (.bin .Add (.bin .Mult (.var 4) (.cst (.int 48271))) (.bin .Mult (.idx (.var 0) (.cst (.int 0))) (.cst (.int 69621)))) .nil)) (.cst (.int 2147483647))))
      (.cons (.asg (.nm 5) (.bin .Mod (.blt .int (.cons (.bin .Add (.bin .Mult (.var 5) (.cst (.int 16807))) (.bin .Mult (.idx (.var 0) (.cst (.int 0))) (.cst (.int 7919)))) .nil)) (.cst (.int 1000000007))))
      (.cons (.ret (.bin .Mod (.bin .FloorDiv (.var 5) (.cst (.int 7))) (.var 1)))
      .nil)))))))))
def bState : Sms :=
      (.cons (.asg (.nm 1) (.mref (.comp (.nm 2) (.seq (.sl (.var 0) .nil (.cons (.cst (.int 63)) .nil))) .nil (.blt .abs (.cons (.var 2) .nil)))))
      (.cons (.ife (.cmp .Eq (.blt .len (.cons (.var 1) .nil)) (.cst (.int 0))) (.cons (.asg (.nm 1) (.mref (.list (.cons (.cst (.int 0)) .nil))))
      .nil) .nil)
      (.cons (.ret (.mref (.list (.cons (.cst (.int 0)) (.cons (.var 1) .nil)))))
      .nil)))
theorem take1 (G : Fns) {S : Store} {st c : Nat} {pos : Int} {cs : List Int} (R : Rnd S st c pos cs) (most : Int) (hm2 : most < 1073741824) :
    ∃ v S', evSs G bTake [.fz (.ref st), .fz (.int most), .un, .un, .un, .un] S = some (.ret (.int v) S') ∧ Drawn S st c most v S' := by
  have R' := R
  obtain ⟨h1, h2, h3, h4, h5, h6⟩ := R
  by_cases hm : 0 < most
  case neg =>
    have hlt : most < 1 := by omega
    refine ⟨0, S, ?_, fun h => absurd h hm, fun _ => rfl, ⟨pos, cs, R'⟩, rfl, fun _ _ _ => rfl⟩
    simp [bTake, hOf, cont, cmpD, okLt, fit_int, like_int, ltD_int, D.isNon, blOf, Cst.d, hlt]
  have hlt : ¬ most < 1 := by omega
  have hl : (0 : Int) < (cs.length : Int) := by
    have : 0 < cs.length := List.length_pos_iff.mpr h5
    omega
  obtain ⟨j, hj, hj2⟩ : ∃ j : Nat, pos % (cs.length : Int) = (j : Int) ∧ j < cs.length := ⟨(pos % (cs.length : Int)).toNat, by
    have := Int.emod_nonneg pos (by omega : (cs.length : Int) ≠ 0)
    omega, by
    have := Int.emod_nonneg pos (by omega : (cs.length : Int) ≠ 0)
    have := Int.emod_lt_of_pos pos hl
    omega⟩
  have hat : atI (cs.map D.int) (j : Int) = some (.int cs[j]) := by
    rw [atI_nat (by simpa using hj2)]
    simp [hj2]
  have hlp : 0 < cs.length := by omega
  have hdiv : ∀ (x : Int), CDiv x most := fun x => ⟨hm, hm2⟩
  have hix := ixN_nat hj2
  have hcj : 0 ≤ cs[j] := h6 _ (List.getElem_mem hj2)
  by_cases hbig : 1000000000000000000 ≤ cs[j]
  · have hb' : ¬ cs[j] < 1000000000000000000 := by omega
    refine ⟨cs[j] % most, S.set c (.con (.lst ((cs.set j (cs[j] / most)).map .int))), ?_, fun _ => ⟨Int.emod_nonneg _ (by omega), Int.emod_lt_of_pos _ hm⟩, fun h => absurd hm h, ⟨pos, _, R'.set j _ (Int.ediv_nonneg hcj (by omega))⟩, by simp, fun k _ hk => List.getElem?_set_ne hk.symm⟩
    simp [bTake, bindT, hOf, cont, cmpD, okLt, okEq, fit_int, like_int, ltD_int, D.isNon, blOf, binD, h1, h2, idxD, bltD, lenD, hm, Cst.d, hlt, atI0, atI1, hlp, hj, hat, hb', hdiv, setItem', hix, putC, setC, List.map_set]
  · have hb' : cs[j] < 1000000000000000000 := by omega
    have hx0 : ixN 2 0 = some 0 := by decide
    have hS : ∀ x : Cell, (List.set S st x)[st]? = some x := fun x => List.getElem?_set_self (List.getElem?_eq_some_iff.mp h1).1
    have hm1 : ∀ a b c d : Int, CMul a 48271 := fun a b c d => .inr ⟨by decide, by decide⟩
    have hm2' : ∀ a : Int, CMul a 48271 ∧ CMul a 69621 ∧ CMul a 16807 ∧ CMul a 7919 := fun a => ⟨.inr ⟨by decide, by decide⟩, .inr ⟨by decide, by decide⟩, .inr ⟨by decide, by decide⟩, .inr ⟨by decide, by decide⟩⟩
    have hd7 : ∀ a : Int, CDiv a 7 := fun a => ⟨by decide, by decide⟩
    refine ⟨(((cs[j] * 48271 + (pos + 1) * 69621) % 2147483647) * 16807 + (pos + 1) * 7919) % 1000000007 / 7 % most, S.set st (.con (.lst [.int (pos + 1), .ref c])), ?_, fun _ => ⟨Int.emod_nonneg _ (by omega), Int.emod_lt_of_pos _ hm⟩, fun h => absurd hm h, ⟨pos + 1, _, R'.next⟩, by simp, fun k hk _ => List.getElem?_set_ne hk.symm⟩
    simp [bTake, bindT, hOf, cont, cmpD, okLt, okEq, fit_int, like_int, ltD_int, D.isNon, blOf, binD, h1, h2, idxD, bltD, lenD, hm, Cst.d, hlt, atI0, atI1, hlp, hj, hat, hb', hdiv, setItem', hix, putC, setC, hx0, hS, hm2', hd7]
theorem run_def {T : Prog} {n : Nat} {key : Str × Option Str} {fd : Fd} (h : T.defs.lookup key = some fd) (ds : List D) (S : Store) (hl : ds.length = fd.np) : runF T (n + 1) key ds S = (evSs (Z.run T n) fd.body (ds.map Slot.fz ++ List.replicate (fd.ns - fd.np) .un) S).bind outR := by
  show (match T.defs.lookup key with
    | some fd => _
    | none => none) = _
  rw [h]
  simp only [hl, if_true]
  congr 1
theorem take_ok {T : Prog} (at_take : T.defs.lookup (("_law_take", none) : Str × Option Str) = some (⟨2, 6, bTake⟩ : Fd)) {n : Nat} {S : Store} {st c : Nat} {pos : Int} {cs : List Int} (R : Rnd S st c pos cs) (most : Int) (h : most < 1073741824) : ∃ v S', runF T (n + 1) ("_law_take", none) [.ref st, .int most] S = some (.int v, S') ∧ Drawn S st c most v S' := by
  obtain ⟨v, S', e, d⟩ := take1 (run T n) R most h
  refine ⟨v, S', ?_, d⟩
  rw [run_def at_take _ _ rfl]
  show (evSs (run T n) bTake [.fz (.ref st), .fz (.int most), .un, .un, .un, .un] S).bind _ = _
  rw [e]; rfl
theorem compGo_map {kp : Store → Prop} {f : D → Store → Option (Option D × Store)} {g : D → D} {S : Store} (hk : kp S) : ∀ xs : List D, (∀ x ∈ xs, f x S = some (some (g x), S)) → compGo kp f xs S = some (xs.map g, S)
  | [], _ => rfl
  | x :: xs, h => by
    unfold compGo
    rw [h x List.mem_cons_self]
    simp only [Option.bind_some]
    rw [if_pos hk, compGo_map hk xs fun y hy => h y (List.mem_cons_of_mem _ hy)]
    rfl
theorem cut_map (ns : List Int) (lo hi : Option Int) : ∃ ms : List Int, cutL (ns.map D.int) lo hi = ms.map D.int ∧ ms.length ≤ ns.length := by
  refine ⟨cutL ns lo hi, ?_, cutL_len _ _ _⟩
  unfold cutL
  rw [List.length_map, List.map_take, List.map_drop]
def absD : D → D
  | .int i => .int (if i < 0 then -i else i)
  | d => d
theorem state_ok {T : Prog} (at_state : T.defs.lookup (("_law_state", none) : Str × Option Str) = some (⟨1, 3, bState⟩ : Fd)) {n : Nat} {S : Store} {ns : List Int} (h : S[0]? = some (.lck (.lst (ns.map .int)))) (hl : ns.length ≤ 63) :
    ∃ st c S' cs, runF T (n + 1) ("_law_state", none) [.ref 0] S = some (.ref st, S') ∧ Rnd S' st c 0 cs ∧ S.length ≤ st ∧ S.length ≤ c ∧ ∀ k, k < S.length → S'[k]? = S[k]? := by
  obtain ⟨ms, e1, e2⟩ := cut_map ns none (some 63)
  have hsz : ms.length ≤ sizeLine := by
    have : (63 : Nat) ≤ sizeLine := by decide
    omega
  have hgo : ∀ (kp : Store → Prop) (f : D → Store → Option (Option D × Store)), kp S → (∀ x ∈ ms.map D.int, f x S = some (some (absD x), S)) → compGo kp f (ms.map D.int) S = some ((ms.map D.int).map absD, S) := fun kp f hk hf => compGo_map hk _ hf
  have hab : (ms.map D.int).map absD = (ms.map fun i => if i < 0 then -i else i).map D.int := by
    rw [List.map_map, List.map_map]; rfl
  generalize hks : (ms.map fun i => if i < 0 then -i else i) = ks at hab
  have hnn : ∀ x ∈ ks, 0 ≤ x := fun x hx => by
    rw [← hks] at hx
    obtain ⟨i, _, rfl⟩ := List.mem_map.mp hx
    split <;> omega
  have hkl : ks.length = ms.length := by rw [← hks, List.length_map]
  have a0 : ∀ c : Cell, (S ++ [c])[S.length]? = some c := fun c => by rw [List.getElem?_append_right (Nat.le_refl _)]; simp
  rw [run_def at_state [.ref 0] S rfl]
  have hc : evE (Z.run T n) (.comp (.nm 2) (.seq (.sl (.var 0) .nil (.cons (.cst (.int 63)) .nil))) .nil (.blt .abs (.cons (.var 2) .nil))) [.fz (.ref 0), .un, .un] S = some (.lst (ks.map D.int), S) := by
    rw [evE]
    have no : noOwn [.fz (.ref 0), .un, .un] (Tg.ix (.nm 2)) = true := rfl
    rw [if_pos no]
    have hi : evI (Z.run T n) (.seq (.sl (.var 0) .nil (.cons (.cst (.int 63)) .nil))) [.fz (.ref 0), .un, .un] S = some (.val (.lst (ms.map D.int)), ms.map D.int, S) := by
      simp [hOf, cont, h, Cst.d, ixO, slD, e1, itemsIn]
    rw [hi]
    simp only [Option.bind_some, lockS]
    rw [hgo _ _ (by rfl) ?_]
    · simp only [Option.bind_some, freeS, hab]
      rw [if_pos (by simp only [List.length_map, hkl]; exact hsz)]
    · intro x hx
      obtain ⟨i, _, rfl⟩ := List.mem_map.mp hx
      simp [bindT, wipeS, Tg.ix, hOf, cont, bltD, absD]
  have h1 : evS (Z.run T n) (.asg (.nm 1) (.mref (.comp (.nm 2) (.seq (.sl (.var 0) .nil (.cons (.cst (.int 63)) .nil))) .nil (.blt .abs (.cons (.var 2) .nil))))) [.fz (.ref 0), .un, .un] S = some (.nxt [.fz (.ref 0), .fz (.ref S.length), .un] (S ++ [.con (.lst (ks.map .int))])) := by
    rw [evS, evE, hc]
    simp [newRef, bindT]
  have hev : evSs (Z.run T n) bState [.fz (.ref 0), .un, .un] S = evSs (Z.run T n) (.cons (.ife (.cmp .Eq (.blt .len (.cons (.var 1) .nil)) (.cst (.int 0))) (.cons (.asg (.nm 1) (.mref (.list (.cons (.cst (.int 0)) .nil)))) .nil) .nil) (.cons (.ret (.mref (.list (.cons (.cst (.int 0)) (.cons (.var 1) .nil))))) .nil)) [.fz (.ref 0), .fz (.ref S.length), .un] (S ++ [.con (.lst (ks.map .int))]) := by
    unfold bState
    rw [evSs, h1]
    rfl
  have one1 : (1 : Nat) ≤ sizeLine := by decide
  show ∃ st c S' cs, (evSs (Z.run T n) bState [.fz (.ref 0), .un, .un] S).bind outR = _ ∧ _
  rw [hev]
  by_cases hz : ks = []
  · refine ⟨S.length + 1 + 1, S.length + 1, ((S ++ [.con (.lst (ks.map .int))]) ++ [.con (.lst [.int 0])]) ++ [.con (.lst [.int 0, .ref (S.length + 1)])], [0], ?_, ⟨?_, ?_, by omega, by omega, by simp, by simp⟩, by omega, by omega, fun k hk => ?_⟩
    · subst hz
      simp [hOf, cont, newRef, bindT, a0, bltD, lenD, eq_ii, Cst.d, blOf, outR, len2, one1]
    · rw [List.getElem?_append_right (by simp)]; simp
    · rw [List.getElem?_append_left (by simp), List.getElem?_append_right (by simp)]; simp
    · rw [List.getElem?_append_left (by simp; omega), List.getElem?_append_left (by simp; omega), List.getElem?_append_left hk]
  · have hne : ¬ ((ks.length : Int) = 0) := by
      have : 0 < ks.length := List.length_pos_iff.mpr hz
      omega
    refine ⟨S.length + 1, S.length, (S ++ [.con (.lst (ks.map .int))]) ++ [.con (.lst [.int 0, .ref S.length])], ks, ?_, ⟨?_, ?_, by omega, by omega, hz, hnn⟩, by omega, by omega, fun k hk => ?_⟩
    · simp [hOf, cont, newRef, bindT, a0, bltD, lenD, eq_ii, Cst.d, blOf, outR, len2, one1, hne, hz]
    · rw [List.getElem?_append_right (by simp)]; simp
    · rw [List.getElem?_append_left (by simp), List.getElem?_append_right (by simp)]; simp
    · rw [List.getElem?_append_left (by simp; omega), List.getElem?_append_left hk]
theorem repr_bl (b : Bool) : bltD .repr [.bl b] = some (.str (if b then "True" else "False")) := by
  have h1 : (D.bl b).fit = true := fit_bl b
  have h2 : (D.bl b).py.showable = true := by cases b <;> decide +kernel
  have h3 : (D.bl b).py.shown = (if b then "True" else "False" : Str) := by cases b <;> decide +kernel
  have h4 : (D.bl b).py.shown.length ≤ sizeLine := by cases b <;> decide +kernel
  simp only [bltD]
  rw [if_pos ⟨h1, h2, h4⟩, h3]
theorem seq1 {G : Fns} {s : Sm} {r : Sms} {ρ ρ' : Env'} {S S' : Store} (h : evS G s ρ S = some (.nxt ρ' S')) : evSs G (.cons s r) ρ S = evSs G r ρ' S' := by
  rw [evSs, h]; rfl
theorem sOk {x : Str} (h : x.cps.all (fun c => decide (c < 1114112)) = true) : ∀ c ∈ x.cps.toList, PyData.strOk ⟨#[c]⟩ = true := by
  intro c hc
  have := Array.all_eq_true_iff_forall_mem.mp h c (Array.mem_toList_iff.mp hc)
  unfold PyData.strOk
  simpa using this
/-- what a walk may end with -/
def Ends (P : Env' → Store → Prop) (B : Env' → Store → Prop) (R : D → Store → Prop) : Out → Prop
  | .nxt ρ S => P ρ S
  | .cnt ρ S => P ρ S
  | .brk ρ S => B ρ S
  | .ret d S => R d S
theorem forGo_gen {kp : Store → Env' → Prop} {f : D → Env' → Store → Option Out} {P : List D → Env' → Store → Prop} {B : Env' → Store → Prop} {R : D → Store → Prop}
    (hk : ∀ pre ρ S, P pre ρ S → kp S ρ) (hb : ∀ ρ S, B ρ S → kp S ρ) (hr : ∀ pre ρ S d S', P pre ρ S → R d S' → kp S' ρ) : ∀ (xs pre : List D), (∀ p x q, xs = p ++ x :: q → ∀ ρ S, P (pre ++ p) ρ S → ∃ o, f x ρ S = some o ∧ Ends (P (pre ++ p ++ [x])) B R o) →
    ∀ ρ S, P pre ρ S → ∃ o, forGo kp f xs ρ S = some o ∧ Ends (P (pre ++ xs)) B R o
  | [], pre, _, ρ, S, h => ⟨.nxt ρ S, rfl, by rw [List.append_nil]; exact h⟩
  | x :: xs, pre, hf, ρ, S, h => by
    obtain ⟨o, e, ho⟩ := hf [] x xs rfl ρ S (by rw [List.append_nil]; exact h)
    rw [List.append_nil] at ho
    have rest : ∀ ρ1 S1, P (pre ++ [x]) ρ1 S1 → ∃ o, forGo kp f xs ρ1 S1 = some o ∧ Ends (P (pre ++ (x :: xs))) B R o := fun ρ1 S1 h1 => by
      obtain ⟨o2, e2, h2⟩ := forGo_gen hk hb hr xs (pre ++ [x]) (fun p y q hq ρ S hp => by
        have := hf (x :: p) y q (by rw [hq]; rfl) ρ S (by simpa using hp)
        simpa using this) ρ1 S1 h1
      exact ⟨o2, e2, by simpa using h2⟩
    cases o with
    | nxt ρ1 S1 =>
      obtain ⟨o2, e2, h2⟩ := rest ρ1 S1 ho
      refine ⟨o2, ?_, h2⟩
      unfold forGo
      rw [e]
      simp only [Option.bind_some]
      rw [if_pos (hk _ _ _ ho)]
      exact e2
    | cnt ρ1 S1 =>
      obtain ⟨o2, e2, h2⟩ := rest ρ1 S1 ho
      refine ⟨o2, ?_, h2⟩
      unfold forGo
      rw [e]
      simp only [Option.bind_some]
      rw [if_pos (hk _ _ _ ho)]
      exact e2
    | brk ρ1 S1 =>
      refine ⟨.brk ρ1 S1, ?_, ho⟩
      unfold forGo
      rw [e]
      simp only [Option.bind_some]
      rw [if_pos (hb _ _ ho)]
    | ret d S1 =>
      refine ⟨.ret d S1, ?_, ho⟩
      unfold forGo
      rw [e]
      simp only [Option.bind_some]
      rw [if_pos (hr _ _ _ _ _ h ho)]
theorem contV {v : D} (hv : ∀ n, v ≠ .ref n) (ρ ρ' : Env') (S S' : Store) : cont ρ' S' (.val v) = cont ρ S (.val v) := by
  cases v <;> first | rfl | exact absurd rfl (hv _)
theorem lockV {v : D} (hv : ∀ n, v ≠ .ref n) (ρ : Env') (S : Store) : lockS ρ S (.val v) = some (S, none) := by
  cases v <;> first | rfl | exact absurd rfl (hv _)
/-- a for over what is no part of the store -/
theorem for_gen {G : Fns} {t : Tg} {it : It} {b : Sms} {ρ : Env'} {S S1 : Store} {v : D} {xs : List D} {P : List D → Env' → Store → Prop} {B : Env' → Store → Prop} {R : D → Store → Prop} (hv : ∀ n, v ≠ .ref n) (hi : evI G it ρ S = some (.val v, xs, S1)) (h0 : P [] ρ S1)
    (hf : ∀ p x q, xs = p ++ x :: q → ∀ ρ S, P p ρ S → ∃ ρ2, bindT t x ρ = some ρ2 ∧ ∃ o, evSs G b ρ2 S = some o ∧ Ends (P (p ++ [x])) B R o) : ∃ o, evS G (.for_ t it b) ρ S = some o ∧ Ends (fun ρ S => P xs ρ S ∨ B ρ S) (fun _ _ => False) R o := by
  obtain ⟨o, e, h⟩ := forGo_gen (kp := fun S' ρ' => cont ρ' S' (.val v) = cont ρ S1 (.val v)) (f := fun d ρ' S' => (bindT t d ρ').bind fun ρ2 => evSs G b ρ2 S') (P := P) (B := B) (R := R) (fun _ ρ' S' _ => contV hv _ _ _ _) (fun ρ' S' _ => contV hv _ _ _ _) (fun _ ρ' S' _ _ _ _ => contV hv _ _ _ _) xs [] (fun p x q hq ρ S hp => by
    obtain ⟨ρ2, e1, o, e2, h⟩ := hf p x q hq ρ S hp
    exact ⟨o, by rw [e1]; exact e2, by simpa using h⟩) ρ S1 h0
  rw [List.nil_append] at h
  have hev : evS G (.for_ t it b) ρ S = o.after none := by
    rw [evS, hi]
    simp only [Option.bind_some, noSlot, if_true, lockV hv]
    rw [e]
    rfl
  rw [hev]
  cases o with
  | nxt ρ S => exact ⟨_, rfl, .inl h⟩
  | cnt ρ S => exact ⟨_, rfl, .inl h⟩
  | brk ρ S => exact ⟨_, rfl, .inr h⟩
  | ret d S => exact ⟨_, rfl, h⟩
/-- the same, with neither break nor return -/
theorem for_pre {G : Fns} {t : Tg} {it : It} {b : Sms} {ρ : Env'} {S S1 : Store} {v : D} {xs : List D} {P : List D → Env' → Store → Prop} (hv : ∀ n, v ≠ .ref n) (hi : evI G it ρ S = some (.val v, xs, S1)) (h0 : P [] ρ S1)
    (hf : ∀ p x q, xs = p ++ x :: q → ∀ ρ S, P p ρ S → ∃ ρ2 ρ' S', bindT t x ρ = some ρ2 ∧ evSs G b ρ2 S = some (.nxt ρ' S') ∧ P (p ++ [x]) ρ' S') : ∃ ρ' S', evS G (.for_ t it b) ρ S = some (.nxt ρ' S') ∧ P xs ρ' S' := by
  obtain ⟨o, e, h⟩ := for_gen (B := fun _ _ => False) (R := fun _ _ => False) hv hi h0 (fun p x q hq ρ S hp => by
    obtain ⟨ρ2, ρ', S', e1, e2, h⟩ := hf p x q hq ρ S hp
    exact ⟨ρ2, e1, _, e2, h⟩)
  cases o with
  | nxt ρ S => exact ⟨_, _, e, by simpa [Ends] using h⟩
  | cnt ρ S => exact absurd e (by
      intro e
      rw [evS, hi] at e
      simp only [Option.bind_some, noSlot, if_true, lockV hv] at e
      revert e
      generalize forGo _ _ _ _ _ = z
      cases z with
      | none => simp
      | some o => cases o <;> simp [Out.after, freeS])
  | brk ρ S => exact absurd h id
  | ret d S => exact absurd h id
/-- a for of the same kind of state throughout -/
theorem for_ok {G : Fns} {t : Tg} {it : It} {b : Sms} {ρ : Env'} {S S1 : Store} {v : D} {xs : List D} {P : Env' → Store → Prop} (hv : ∀ n, v ≠ .ref n) (hi : evI G it ρ S = some (.val v, xs, S1)) (h0 : P ρ S1)
    (hf : ∀ x ∈ xs, ∀ ρ S, P ρ S → ∃ ρ2 ρ' S', bindT t x ρ = some ρ2 ∧ evSs G b ρ2 S = some (.nxt ρ' S') ∧ P ρ' S') : ∃ ρ' S', evS G (.for_ t it b) ρ S = some (.nxt ρ' S') ∧ P ρ' S' :=
  for_pre (P := fun _ => P) hv hi h0 fun p x q hq ρ S hp => hf x (by rw [hq]; simp) ρ S hp
/-- walks that make a list -/
noncomputable def stepC (G : Fns) (t : Tg) (c : Ar) (e : Ex) (ρ : Env') (d : D) (S' : Store) : Option (Option D × Store) := (bindT t d (wipeS ρ t.ix)).bind fun ρ' => match c with
        | .nil => (evE G e ρ' S').map fun r => (some r.1, r.2)
        | .cons c _ => (evE G c ρ' S').bind fun q => (blOf q.1).bind fun b => if b then (evE G e ρ' q.2).map fun r => (some r.1, r.2) else some (none, q.2)
theorem compGo_fm {kp : Store → Prop} {f : D → Store → Option (Option D × Store)} {g : D → Option D} {S : Store} (hk : kp S) : ∀ xs : List D, (∀ x ∈ xs, f x S = some (g x, S)) → compGo kp f xs S = some (xs.filterMap g, S)
  | [], _ => rfl
  | x :: xs, h => by
    unfold compGo
    rw [h x List.mem_cons_self]
    simp only [Option.bind_some]
    rw [if_pos hk, compGo_fm hk xs fun y hy => h y (List.mem_cons_of_mem _ hy)]
    cases hg : g x with
    | none => simp [hg]
    | some y => simp [hg]
theorem comp_ok {G : Fns} {t : Tg} {it : It} {c : Ar} {e : Ex} {ρ : Env'} {S S1 : Store} {v : D} {xs : List D} {g : D → Option D} (no : noOwn ρ t.ix = true) (hv : ∀ n, v ≠ .ref n) (hi : evI G it ρ S = some (.val v, xs, S1)) (hs : ∀ x ∈ xs, stepC G t c e ρ x S1 = some (g x, S1)) (hl : (xs.filterMap g).length ≤ sizeLine) :
    evE G (.comp t it c e) ρ S = some (.lst (xs.filterMap g), S1) := by
  rw [evE, if_pos no, hi]
  simp only [Option.bind_some, lockV hv]
  have := compGo_fm (kp := fun S' => cont ρ S' (.val v) = cont ρ S1 (.val v)) (f := stepC G t c e ρ) (g := g) (S := S1) rfl xs hs
  refine Eq.trans (congrArg (fun z => Option.bind z _) this) ?_
  simp only [Option.bind_some, freeS]
  rw [if_pos hl]
theorem compGo_inv {kp : Store → Prop} {f : D → Store → Option (Option D × Store)} {I : Store → Prop} {Q : List D → Prop} (hk : ∀ S, I S → kp S) (h0 : Q []) : ∀ (xs : List D), (∀ x ∈ xs, ∀ S, I S → ∃ r S', f x S = some (r, S') ∧ I S' ∧ ∀ ys, Q ys → Q (r.toList ++ ys)) → ∀ S, I S → ∃ ys S', compGo kp f xs S = some (ys, S') ∧ I S' ∧ Q ys ∧ ys.length ≤ xs.length
  | [], _, S, h => ⟨[], S, rfl, h, h0, Nat.le_refl _⟩
  | x :: xs, hf, S, h => by
    obtain ⟨r, S1, e1, i1, q1⟩ := hf x List.mem_cons_self S h
    obtain ⟨ys, S2, e2, i2, q2, l2⟩ := compGo_inv hk h0 xs (fun y hy => hf y (List.mem_cons_of_mem _ hy)) S1 i1
    refine ⟨r.toList ++ ys, S2, ?_, i2, q1 _ q2, ?_⟩
    · unfold compGo
      rw [e1]
      simp only [Option.bind_some]
      rw [if_pos (hk _ i1), e2]
      cases r <;> rfl
    · cases r <;> simp <;> omega
theorem comp_inv {G : Fns} {t : Tg} {it : It} {c : Ar} {e : Ex} {ρ : Env'} {S S1 : Store} {v : D} {xs : List D} {I : Store → Prop} {Q : List D → Prop} (no : noOwn ρ t.ix = true) (hv : ∀ n, v ≠ .ref n) (hi : evI G it ρ S = some (.val v, xs, S1)) (hI : I S1) (h0 : Q [])
    (hs : ∀ x ∈ xs, ∀ S, I S → ∃ r S', stepC G t c e ρ x S = some (r, S') ∧ I S' ∧ ∀ ys, Q ys → Q (r.toList ++ ys)) (hl : xs.length ≤ sizeLine) :
    ∃ ys S', evE G (.comp t it c e) ρ S = some (.lst ys, S') ∧ I S' ∧ Q ys ∧ ys.length ≤ xs.length := by
  obtain ⟨ys, S', e1, i1, q1, l1⟩ := compGo_inv (kp := fun S' => cont ρ S' (.val v) = cont ρ S1 (.val v)) (f := stepC G t c e ρ) (I := I) (Q := Q) (fun S _ => contV hv _ _ _ _) h0 xs hs S1 hI
  refine ⟨ys, S', ?_, i1, q1, l1⟩
  rw [evE, if_pos no, hi]
  simp only [Option.bind_some, lockV hv]
  refine Eq.trans (congrArg (fun z => Option.bind z _) e1) ?_
  simp only [Option.bind_some, freeS]
  rw [if_pos (by omega)]
end Z

set_option Elab.async false
set_option linter.all false
set_option maxRecDepth 100000
set_option maxHeartbeats 1000000
namespace Z
open PySem PySem.Spec PyProof.Rows L2
theorem x_forGo_nil {kp : Store → Env' → Prop} {f : D → Env' → Store → Option Out} {ρ : Env'} {S : Store} : forGo kp f [] ρ S = some (.nxt ρ S) := rfl
open Classical in
theorem x_forGo_cons {kp : Store → Env' → Prop} {f : D → Env' → Store → Option Out} {x : D} {xs : List D} {ρ : Env'} {S : Store} : forGo kp f (x :: xs) ρ S = bnd (f x ρ S) (k := ⟨fun o => match o with
    | .nxt ρ' S' => if kp S' ρ' then forGo kp f xs ρ' S' else none
    | .cnt ρ' S' => if kp S' ρ' then forGo kp f xs ρ' S' else none
    | .brk ρ' S' => if kp S' ρ' then some (.brk ρ' S') else none
    | .ret d S' => if kp S' ρ then some (.ret d S') else none⟩) := by
  rw [forGo]; rfl
/-- a for over a list of the store that stays as it is -/
theorem for_ref {G : Fns} {t : Tg} {it : It} {b : Sms} {ρ : Env'} {S S1 : Store} {n : Nat} {xs : List D} {P : List D → Env' → Store → Prop} {B : Env' → Store → Prop} {R : D → Store → Prop} (hi : evI G it ρ S = some (.val (.ref n), xs, S1)) (hn : S1[n]? = some (.con (.lst xs)))
    (hP : ∀ p ρ S, P p ρ S → S[n]? = some (.con (.lst xs))) (hB : ∀ ρ S, B ρ S → S[n]? = some (.con (.lst xs))) (hR : ∀ d S, R d S → S[n]? = some (.con (.lst xs))) (h0 : P [] ρ S1)
    (hf : ∀ p x q, xs = p ++ x :: q → ∀ ρ S, P p ρ S → ∃ ρ2, bindT t x ρ = some ρ2 ∧ ∃ o, evSs G b ρ2 S = some o ∧ Ends (P (p ++ [x])) B R o) : ∃ o, evS G (.for_ t it b) ρ S = some o ∧ Ends (fun ρ S => P xs ρ S ∨ B ρ S) (fun _ _ => False) R o := by
  have c1 : ∀ ρ S, S[n]? = some (.con (.lst xs)) → cont ρ S (.val (.ref n)) = some (.lst xs) := fun ρ S h => by simp [cont, h]
  obtain ⟨o, e, h⟩ := forGo_gen (kp := fun S' ρ' => cont ρ' S' (.val (.ref n)) = cont ρ S1 (.val (.ref n))) (f := fun d ρ' S' => (bindT t d ρ').bind fun ρ2 => evSs G b ρ2 S') (P := P) (B := B) (R := R) (fun p ρ' S' h => by rw [c1 _ _ (hP _ _ _ h), c1 _ _ hn]) (fun ρ' S' h => by rw [c1 _ _ (hB _ _ h), c1 _ _ hn]) (fun _ ρ' S' d S2 _ h => by rw [c1 _ _ (hR _ _ h), c1 _ _ hn]) xs [] (fun p x q hq ρ S hp => by
    obtain ⟨ρ2, e1, o, e2, h⟩ := hf p x q hq ρ S hp
    exact ⟨o, by rw [e1]; exact e2, by simpa using h⟩) ρ S1 h0
  rw [List.nil_append] at h
  have hev : evS G (.for_ t it b) ρ S = o.after none := by
    rw [evS, hi]
    simp only [Option.bind_some, noSlot, if_true]
    have hl : lockS ρ S1 (.val (.ref n)) = some (S1, none) := by simp [lockS, hn]
    rw [hl]
    simp only [Option.bind_some]
    rw [e]
    rfl
  rw [hev]
  cases o with
  | nxt ρ S => exact ⟨_, rfl, .inl h⟩
  | cnt ρ S => exact ⟨_, rfl, .inl h⟩
  | brk ρ S => exact ⟨_, rfl, .inr h⟩
  | ret d S => exact ⟨_, rfl, h⟩
@[simp] theorem cont_int {ρ : Env'} {S : Store} {i : Int} : cont ρ S (.val (.int i)) = some (.int i) := rfl
@[simp] theorem cont_str {ρ : Env'} {S : Store} {i : Str} : cont ρ S (.val (.str i)) = some (.str i) := rfl
@[simp] theorem cont_bl {ρ : Env'} {S : Store} {i : Bool} : cont ρ S (.val (.bl i)) = some (.bl i) := rfl
@[simp] theorem cont_non {ρ : Env'} {S : Store} : cont ρ S (.val .non) = some .non := rfl
@[simp] theorem cont_tup {ρ : Env'} {S : Store} {i : List D} : cont ρ S (.val (.tup i)) = some (.tup i) := rfl
@[simp] theorem cont_lst {ρ : Env'} {S : Store} {i : List D} : cont ρ S (.val (.lst i)) = some (.lst i) := rfl
@[simp] theorem cont_dK {ρ : Env'} {S : Store} {i : List (Key × D)} : cont ρ S (.val (.dK i)) = some (.dK i) := rfl
@[simp] theorem cont_dT {ρ : Env'} {S : Store} {i : List (List Key × D)} : cont ρ S (.val (.dT i)) = some (.dT i) := rfl
@[simp] theorem cont_ref {ρ : Env'} {S : Store} {n : Nat} : cont ρ S (.val (.ref n)) = match S[n]? with
    | some (.con d) => some d
    | some (.lck d) => some d
    | _ => none := rfl
@[simp] theorem cont_slot {ρ : Env'} {S : Store} {i : Nat} : cont ρ S (.slot i) = match ρ[i]? with
    | some (.own d) => some d
    | _ => none := rfl
theorem filterMap_if {α : Type} (p : α → Bool) (xs : List α) : xs.filterMap (fun x => if p x then some x else none) = xs.filter p := by
  induction xs with
  | nil => rfl
  | cons x xs ih =>
    by_cases h : p x = true
    · rw [List.filterMap_cons_some (b := x) (by simp [h]), List.filter_cons_of_pos h, ih]
    · rw [List.filterMap_cons_none (by simp [h]), List.filter_cons_of_neg h, ih]
/-- a comprehension that keeps some of what it walks, f told -/
theorem comp_keep {α : Type} {G : Fns} {i : Nat} {it : Z.It} {c : Ex} {ρ : Env'} {S S1 : Store} {v : D} {f : α → D} {xs : List α} {p : α → Bool} (no : noOwn ρ [i] = true) (hv : ∀ n, v ≠ .ref n) (hi : evI G it ρ S = some (.val v, xs.map f, S1)) (hi2 : i < ρ.length)
    (hc : ∀ x ∈ xs, evE G c ((wipeS ρ [i]).set i (.fz (f x))) S1 = some (.bl (p x), S1)) (hl : xs.length ≤ 1000) : evE G (.comp (.nm i) it (.cons c .nil) (.var i)) ρ S = some (.lst ((xs.filter p).map f), S1) := by
  have hs : ∀ ys : List α, ∃ g : D → Option D, True := fun _ => ⟨fun _ => none, trivial⟩
  have big : (1000 : Nat) ≤ sizeLine := by decide
  have key : compGo (fun S' => cont ρ S' (.val v) = cont ρ S1 (.val v)) (stepC G (.nm i) (.cons c .nil) (.var i) ρ) (xs.map f) S1 = some ((xs.filter p).map f, S1) := by
    clear hi hl hs
    induction xs with
    | nil => rfl
    | cons x xs ih =>
      have hx := hc x List.mem_cons_self
      have l : i < (wipeS ρ [i]).length := by simp [wipeS]; exact hi2
      have e : stepC G (.nm i) (.cons c .nil) (.var i) ρ (f x) S1 = some (if p x then some (f x) else none, S1) := by
        have hx' : evE G c ((wipeS ρ (Tg.nm i).ix).set i (.fz (f x))) S1 = some (.bl (p x), S1) := hx
        have l' : i < (wipeS ρ (Tg.nm i).ix).length := l
        have g1 : ((wipeS ρ (Tg.nm i).ix).set i (.fz (f x)))[i]? = some (.fz (f x)) := List.getElem?_set_self l'
        cases hp : p x with
        | true => rw [hp] at hx'; simp [stepC, bindT, hx', blOf, g1]
        | false => rw [hp] at hx'; simp [stepC, bindT, hx', blOf]
      unfold compGo
      rw [List.map_cons]
      simp only
      rw [e]
      simp only [Option.bind_some]
      rw [if_pos (by trivial), ih (fun y hy => hc y (List.mem_cons_of_mem _ hy))]
      cases hp : p x <;> simp [hp, List.filter_cons]
  rw [evE, if_pos (show noOwn ρ (Tg.nm i).ix = true from no), hi]
  simp only [Option.bind_some, lockV hv]
  refine Eq.trans (congrArg (fun z => Option.bind z _) key) ?_
  simp only [Option.bind_some, freeS]
  rw [if_pos (by rw [List.length_map]; have := List.length_filter_le p xs; omega)]
end Z

set_option Elab.async false
set_option linter.all false
set_option maxRecDepth 100000
set_option maxHeartbeats 1000000
namespace Z
open PySem PySem.Spec PyProof.Rows L2
theorem map_split {α : Type} {f : α → D} {xs : List α} {p q : List D} {x : D} (h : xs.map f = p ++ x :: q) : ∃ y, xs = xs.take p.length ++ y :: xs.drop (p.length + 1) ∧ f y = x ∧ xs.take (p ++ [x]).length = xs.take p.length ++ [y] := by
  have hl : p.length < xs.length := by
    have := congrArg List.length h
    simp at this; omega
  refine ⟨xs[p.length], ?_, ?_, ?_⟩
  · rw [List.getElem_cons_drop, List.take_append_drop]
  · have h1 : (xs.map f)[p.length]? = some x := by rw [h]; simp
    rw [List.getElem?_map, List.getElem?_eq_getElem hl] at h1
    simpa using h1
  · rw [List.length_append, List.length_singleton, List.take_succ, List.getElem?_eq_getElem hl]; rfl
/-- a for over what is told by f -/
theorem for_map {α : Type} {G : Fns} {t : Tg} {it : Z.It} {b : Sms} {ρ : Env'} {S S1 : Store} {v : D} (f : α → D) (xs : List α) (P : List α → Env' → Store → Prop) (hv : ∀ n, v ≠ .ref n) (hi : evI G it ρ S = some (.val v, xs.map f, S1)) (h0 : P [] ρ S1)
    (hf : ∀ p x q, xs = p ++ x :: q → ∀ ρ S, P p ρ S → ∃ ρ2 ρ' S', bindT t (f x) ρ = some ρ2 ∧ evSs G b ρ2 S = some (.nxt ρ' S') ∧ P (p ++ [x]) ρ' S') : ∃ ρ' S', evS G (.for_ t it b) ρ S = some (.nxt ρ' S') ∧ P xs ρ' S' := by
  obtain ⟨ρ', S', e, h⟩ := for_pre (P := fun p ρ S => P (xs.take p.length) ρ S) hv hi h0 (fun p x q hq ρ S hp => by
    obtain ⟨y, e1, e2, e3⟩ := map_split hq
    rw [e3, ← e2]
    exact hf _ y _ e1 ρ S hp)
  refine ⟨ρ', S', e, ?_⟩
  simpa using h
/-- the same with all ends -/
theorem for_mapg {α : Type} {G : Fns} {t : Tg} {it : Z.It} {b : Sms} {ρ : Env'} {S S1 : Store} {v : D} (f : α → D) (xs : List α) (P : List α → Env' → Store → Prop) (B : Env' → Store → Prop) (R : D → Store → Prop) (hv : ∀ n, v ≠ .ref n) (hi : evI G it ρ S = some (.val v, xs.map f, S1)) (h0 : P [] ρ S1)
    (hf : ∀ p x q, xs = p ++ x :: q → ∀ ρ S, P p ρ S → ∃ ρ2, bindT t (f x) ρ = some ρ2 ∧ ∃ o, evSs G b ρ2 S = some o ∧ Ends (P (p ++ [x])) B R o) : ∃ o, evS G (.for_ t it b) ρ S = some o ∧ Ends (fun ρ S => P xs ρ S ∨ B ρ S) (fun _ _ => False) R o := by
  obtain ⟨o, e, h⟩ := for_gen (P := fun p ρ S => P (xs.take p.length) ρ S) (B := B) (R := R) hv hi h0 (fun p x q hq ρ S hp => by
    obtain ⟨y, e1, e2, e3⟩ := map_split hq
    rw [e3, ← e2]
    exact hf _ y _ e1 ρ S hp)
  refine ⟨o, e, ?_⟩
  simpa using h
theorem for_refm {α : Type} {G : Fns} {t : Tg} {it : Z.It} {b : Sms} {ρ : Env'} {S S1 : Store} {n : Nat} (f : α → D) (xs : List α) (P : List α → Env' → Store → Prop) (B : Env' → Store → Prop) (R : D → Store → Prop) (hi : evI G it ρ S = some (.val (.ref n), xs.map f, S1)) (hn : S1[n]? = some (.con (.lst (xs.map f))))
    (hP : ∀ p ρ S, P p ρ S → S[n]? = some (.con (.lst (xs.map f)))) (hB : ∀ ρ S, B ρ S → S[n]? = some (.con (.lst (xs.map f)))) (hR : ∀ d S, R d S → S[n]? = some (.con (.lst (xs.map f)))) (h0 : P [] ρ S1)
    (hf : ∀ p x q, xs = p ++ x :: q → ∀ ρ S, P p ρ S → ∃ ρ2, bindT t (f x) ρ = some ρ2 ∧ ∃ o, evSs G b ρ2 S = some o ∧ Ends (P (p ++ [x])) B R o) : ∃ o, evS G (.for_ t it b) ρ S = some o ∧ Ends (fun ρ S => P xs ρ S ∨ B ρ S) (fun _ _ => False) R o := by
  obtain ⟨o, e, h⟩ := for_ref (P := fun p ρ S => P (xs.take p.length) ρ S) (B := B) (R := R) hi hn (fun p => hP _) hB hR h0 (fun p x q hq ρ S hp => by
    obtain ⟨y, e1, e2, e3⟩ := map_split hq
    rw [e3, ← e2]
    exact hf _ y _ e1 ρ S hp)
  refine ⟨o, e, ?_⟩
  simpa using h
theorem ixN_last {n : Nat} : ixN (n + 1) (-1) = some n := by
  unfold ixN
  rw [if_neg (by omega)]
  have : (0 : Int) ≤ -1 + ((n + 1 : Nat) : Int) := by omega
  simp
  omega
theorem set_last {α : Type} (xs : List α) (x y : α) : (xs ++ [x]).set xs.length y = xs ++ [y] := by
  induction xs with
  | nil => rfl
  | cons a xs ih => rw [List.cons_append, List.length_cons, List.set_cons_succ, ih]; rfl
@[simp] theorem idx_l {xs : List D} {i : Int} : idxD (.lst xs) (.int i) = atI xs i := rfl
@[simp] theorem idx_t {xs : List D} {i : Int} : idxD (.tup xs) (.int i) = atI xs i := rfl
@[simp] theorem len_l {xs : List D} : bltD .len [.lst xs] = some (.int xs.length) := rfl
@[simp] theorem len_t {xs : List D} : bltD .len [.tup xs] = some (.int xs.length) := rfl
@[simp] theorem add_ii {i j : Int} : binD .Add (.int i) (.int j) = some (.int (i + j)) := rfl
@[simp] theorem sub_ii {i j : Int} : binD .Sub (.int i) (.int j) = some (.int (i - j)) := rfl
@[simp] theorem blOf_bl {b : Bool} : blOf (.bl b) = some b := rfl
@[simp] theorem intOf_int {b : Int} : intOf (.int b) = some b := rfl
@[simp] theorem items_l {xs : List D} : itemsIn (.lst xs) = some xs := rfl
@[simp] theorem items_t {xs : List D} : itemsIn (.tup xs) = some xs := rfl
@[simp] theorem run_fn {T : Prog} {n : Nat} : (Z.run T n).fn = runF T n := rfl
@[simp] theorem run_fld {T : Prog} {n : Nat} : (Z.run T n).fld = T.fld := rfl
end Z

set_option Elab.async false
set_option linter.all false
set_option maxRecDepth 100000
set_option maxHeartbeats 1000000
namespace Z
open PySem PySem.Spec PyProof.Rows L2
theorem strOk_app (a b : Str) : PyData.strOk (a ++ b) = (PyData.strOk a && PyData.strOk b) := by
  unfold PyData.strOk
  show (a.cps ++ b.cps).all _ = _
  rw [Array.all_append]
theorem len_app (a b : Str) : (a ++ b).length = a.length + b.length := by
  show (a.cps ++ b.cps).size = _
  rw [Array.size_append]; rfl
theorem join_ok {B : Nat} : ∀ ts : List Str, (∀ t ∈ ts, PyData.strOk t = true ∧ t.length ≤ B) → PyData.strOk (Str.join ", " ts) = true ∧ (Str.join ", " ts).length ≤ (B + 2) * ts.length
  | [], _ => ⟨by decide +kernel, by rw [show Str.join ", " ([] : List Str) = Str.empty from rfl]; exact Nat.zero_le _⟩
  | [t], h => by
    obtain ⟨a, b⟩ := h t List.mem_cons_self
    rw [show Str.join ", " [t] = t from rfl]
    exact ⟨a, by simp; omega⟩
  | t :: u :: r, h => by
    obtain ⟨a, b⟩ := h t List.mem_cons_self
    obtain ⟨c, d⟩ := join_ok (u :: r) fun z hz => h z (List.mem_cons_of_mem _ hz)
    rw [show Str.join ", " (t :: u :: r) = t ++ ", " ++ Str.join ", " (u :: r) from rfl]
    refine ⟨by rw [strOk_app, strOk_app, a, c]; decide +kernel, ?_⟩
    rw [len_app, len_app]
    have e : (", " : Str).length = 2 := rfl
    rw [e]
    have : (B + 2) * (t :: u :: r).length = (B + 2) + (B + 2) * (u :: r).length := by rw [List.length_cons, Nat.mul_add, Nat.mul_one, Nat.add_comm]
    rw [this]
    omega
theorem listText_ok {B : Nat} {ts : List Str} (h : ∀ t ∈ ts, PyData.strOk t = true ∧ t.length ≤ B) : PyData.strOk (listText ts) = true ∧ (listText ts).length ≤ (B + 2) * ts.length + 2 := by
  obtain ⟨a, b⟩ := join_ok ts h
  rw [listText_eq_join]
  refine ⟨by rw [strOk_app, strOk_app, a]; decide +kernel, ?_⟩
  rw [len_app, len_app]
  have e : ("[" : Str).length = 1 := rfl
  have e2 : ("]" : Str).length = 1 := rfl
  rw [e, e2]; omega
theorem tupleText_ok {B : Nat} {ts : List Str} (h : ∀ t ∈ ts, PyData.strOk t = true ∧ t.length ≤ B) : PyData.strOk (tupleText ts) = true ∧ (tupleText ts).length ≤ (B + 2) * ts.length + 3 := by
  obtain ⟨a, b⟩ := join_ok ts h
  unfold tupleText
  by_cases c : (ts.length == 1) = true
  · rw [if_pos c]
    refine ⟨by rw [strOk_app, strOk_app, a]; decide +kernel, ?_⟩
    rw [len_app, len_app]
    have e : ("(" : Str).length = 1 := rfl
    have e2 : ((",)" : String) : Str).length = 2 := rfl
    rw [e, e2]; omega
  · rw [if_neg c]
    refine ⟨by rw [strOk_app, strOk_app, a]; decide +kernel, ?_⟩
    rw [len_app, len_app]
    have e : ("(" : Str).length = 1 := rfl
    have e2 : ((")" : String) : Str).length = 1 := rfl
    rw [e, e2]; omega
/-- how long a thing's text is at most -/
def Txt (B : Nat) (d : D) : Prop := d.py.showable = true ∧ PyData.strOk d.py.shown = true ∧ d.py.shown.length ≤ B
theorem txtAll {B : Nat} : ∀ xs : List D, (∀ x ∈ xs, Txt B x) → PyData.showableAll (pys xs) = true ∧ (PyData.shownAll (pys xs)).length = xs.length ∧ ∀ t ∈ PyData.shownAll (pys xs), PyData.strOk t = true ∧ t.length ≤ B
  | [], _ => ⟨rfl, rfl, fun t h => by simp [pys, PyData.shownAll] at h⟩
  | x :: xs, h => by
    obtain ⟨a, b, c⟩ := txtAll xs fun y hy => h y (List.mem_cons_of_mem _ hy)
    obtain ⟨d, e, f⟩ := h x List.mem_cons_self
    refine ⟨by simp [pys, PyData.showableAll, a, d], by simp [pys, PyData.shownAll, b], fun t ht => ?_⟩
    simp only [pys, PyData.shownAll, List.mem_cons] at ht
    rcases ht with rfl | ht
    · exact ⟨e, f⟩
    · exact c t ht
theorem txt_lst {B : Nat} {xs : List D} (h : ∀ x ∈ xs, Txt B x) : Txt ((B + 2) * xs.length + 2) (.lst xs) := by
  obtain ⟨a, b, c⟩ := txtAll xs h
  have := listText_ok c
  rw [b] at this
  exact ⟨by simpa [D.py, PyData.showable] using a, by simpa only [D.py, PyData.shown] using this.1, by simpa only [D.py, PyData.shown] using this.2⟩
theorem txt_tup {B : Nat} {xs : List D} (h : ∀ x ∈ xs, Txt B x) : Txt ((B + 2) * xs.length + 3) (.tup xs) := by
  obtain ⟨a, b, c⟩ := txtAll xs h
  have := tupleText_ok c
  rw [b] at this
  exact ⟨by simpa [D.py, PyData.showable] using a, by simpa only [D.py, PyData.shown] using this.1, by simpa only [D.py, PyData.shown] using this.2⟩
theorem repr_txt {B : Nat} {d : D} (h : Txt B d) (hf : d.fit = true) (hB : B ≤ 1000000) : bltD .repr [d] = some (.str d.py.shown) := by
  have big : (1000000 : Nat) ≤ sizeLine := by decide
  obtain ⟨a, b, c⟩ := h
  simp only [bltD]
  rw [if_pos ⟨hf, a, by omega⟩]
end Z

set_option Elab.async false
set_option linter.all false
set_option maxRecDepth 100000
set_option maxHeartbeats 1000000
namespace Z
open PySem PySem.Spec PyProof.Rows L2
theorem fits_map {α : Type} (xs : List α) (f : α → D) (h : ∀ x ∈ xs, (f x).plain = true ∧ (f x).dep ≤ 59) : fits (xs.map f) = true := by
  have h1 : plains (xs.map f) = true := by
    induction xs with
    | nil => rfl
    | cons x xs ih =>
      rw [List.map_cons, plains, (h x List.mem_cons_self).1, ih fun y hy => h y (List.mem_cons_of_mem _ hy)]; rfl
  have h2 : PyData.depthAll (pys (xs.map f)) ≤ 59 := by
    clear h1
    induction xs with
    | nil => simp [pys, PyData.depthAll]
    | cons x xs ih =>
      have a := (h x List.mem_cons_self).2
      have b := ih fun y hy => h y (List.mem_cons_of_mem _ hy)
      unfold D.dep at a
      simp only [List.map_cons, pys, PyData.depthAll]
      omega
  simp only [fits, D.fit, D.plain, h1, D.dep, D.py, PyData.depth, Bool.true_and, decide_eq_true_eq]
  omega
theorem okAll_map {α : Type} (xs : List α) (f : α → D) (h : ∀ x ∈ xs, (f x).plain = true ∧ (f x).dep ≤ 59 ∧ (f x).isNon = false) (hl : ∀ x ∈ xs, ∀ y ∈ xs, likeD (f x) (f y) = true) : okAll (xs.map f) = true := by
  have h1 := fits_map xs f fun x hx => ⟨(h x hx).1, (h x hx).2.1⟩
  have h2 : ((xs.map f).all fun a => (xs.map f).all fun b => likeD a b) = true := by
    simp only [List.all_map, List.all_eq_true, Function.comp]
    exact fun x hx y hy => hl x hx y hy
  have h3 : ((xs.map f).all fun a => !a.isNon) = true := by
    simp only [List.all_map, List.all_eq_true, Function.comp]
    intro x hx
    rw [(h x hx).2.2]; rfl
  unfold okAll
  rw [h1, h2, h3]; rfl
theorem lst_eq {α : Type} [DecidableEq α] (f : α → D) (I : α → Prop) (h : ∀ x y, I x → I y → eqD (f x) (f y) = decide (x = y)) : ∀ xs ys : List α, (∀ x ∈ xs, I x) → (∀ y ∈ ys, I y) → PyData.eqvAll (pys (xs.map f)) (pys (ys.map f)) = decide (xs = ys)
  | [], [], _, _ => by simp [eqA_nil]
  | [], y :: ys, _, _ => by simp [eqA_r]
  | x :: xs, [], _, _ => by simp [eqA_l]
  | x :: xs, y :: ys, hx, hy => by
    rw [List.map_cons, List.map_cons, eqA_cons, h x y (hx x List.mem_cons_self) (hy y List.mem_cons_self), lst_eq f I h xs ys (fun z hz => hx z (List.mem_cons_of_mem _ hz)) fun z hz => hy z (List.mem_cons_of_mem _ hz)]
    rw [Bool.eq_iff_iff]; simp
/-- == and != of lists of spans, of strings -/
theorem cmpL {α : Type} [DecidableEq α] {f : α → D} {I : α → Prop} (h : ∀ x y, I x → I y → eqD (f x) (f y) = decide (x = y)) (hf : ∀ x, (f x).plain = true ∧ (f x).dep ≤ 59) {xs ys : List α} (hx : ∀ x ∈ xs, I x) (hy : ∀ y ∈ ys, I y) :
    cmpD .Eq (.lst (xs.map f)) (.lst (ys.map f)) = some (decide (xs = ys)) ∧ cmpD .NotEq (.lst (xs.map f)) (.lst (ys.map f)) = some (!decide (xs = ys)) := by
  have a : (D.lst (xs.map f)).fit = true := fits_map xs f fun x _ => hf x
  have b : (D.lst (ys.map f)).fit = true := fits_map ys f fun x _ => hf x
  simp only [cmpD, okEq, a, b, Bool.and_self, if_true, eqD_lst, lst_eq f I h xs ys hx hy, and_self]
def leS (a b : Str) : Bool := !decide (b.cps.toList < a.cps.toList)
def ltS (a b : Str) : Bool := decide (a.cps.toList < b.cps.toList)
theorem le_ss (a b : Str) (ha : PyData.strOk a = true) (hb : PyData.strOk b = true) : cmpD .LtE (.str a) (.str b) = some (leS a b) := by simp [cmpD, okLt, fit_str, ha, hb, like_str, D.isNon, ltD_str, leS]
theorem lt_ss (a b : Str) (ha : PyData.strOk a = true) (hb : PyData.strOk b = true) : cmpD .Lt (.str a) (.str b) = some (ltS a b) := by simp [cmpD, okLt, fit_str, ha, hb, like_str, D.isNon, ltD_str, ltS]
theorem decLen {α : Type} (xs : List α) (p : α → Bool) : decide (0 < ((xs.filter p).length : Int)) = xs.any p := by
  rw [Bool.eq_iff_iff]
  simp [List.length_pos_iff, List.filter_eq_nil_iff]
theorem cat (a b c : Str) (h : a ++ b = c) (hl : a.length + b.length ≤ 100) : binD .Add (.str a) (.str b) = some (.str c) := by
  have h1 : (100 : Nat) ≤ sizeLine := by decide
  simp only [binD]; rw [if_pos (by omega), h]
theorem eq_bb (a b : Bool) : cmpD .Eq (.bl a) (.bl b) = some (a == b) := by simp [cmpD, okEq, fit_bl, eqD_bl]
theorem ne_bb (a b : Bool) : cmpD .NotEq (.bl a) (.bl b) = some (a != b) := by simp [cmpD, okEq, fit_bl, eqD_bl, bne]
mutual
theorem eqD_refl : ∀ d : D, d.plain = true → eqD d d = true
  | .non, _ => eqD_non
  | .bl b, _ => by rw [eqD_bl]; simp
  | .int i, _ => by rw [eqD_int]; simp
  | .str x, _ => by rw [eqD_str]; simp
  | .lst xs, h => by rw [eqD_lst]; exact eqA_refl xs (by simpa [D.plain] using h)
  | .tup xs, h => by rw [eqD_tup]; exact eqA_refl xs (by simpa [D.plain] using h)
  | .dK _, h => by simp [D.plain] at h
  | .dT _, h => by simp [D.plain] at h
  | .ref _, h => by simp [D.plain] at h
  | .ctup xs, h => (show eqD (.ctup xs) (.ctup xs) = _ by simp only [eqD, D.py, PyData.eqv]).trans (eqA_refl xs (by simpa [D.plain] using h))
theorem eqA_refl : ∀ xs : List D, plains xs = true → PyData.eqvAll (pys xs) (pys xs) = true
  | [], _ => eqA_nil
  | x :: xs, h => by
    simp only [plains, Bool.and_eq_true] at h
    rw [eqA_cons, eqD_refl x h.1, eqA_refl xs h.2]; rfl
end
theorem ne_self {d : D} (h : d.fit = true) : cmpD .NotEq d d = some false := by
  simp [cmpD, okEq, h, eqD_refl d (fit_plain h)]
theorem eq_self {d : D} (h : d.fit = true) : cmpD .Eq d d = some true := by
  simp [cmpD, okEq, h, eqD_refl d (fit_plain h)]
theorem okAll_ss (a b : Str) (ha : PyData.strOk a = true) (hb : PyData.strOk b = true) : okAll [.str a, .str b] = true :=
  okAll_map [a, b] D.str (fun x hx => by
    simp at hx
    rcases hx with rfl | rfl
    · exact ⟨ha, by simp [D.dep, D.py, PyData.depth], rfl⟩
    · exact ⟨hb, by simp [D.dep, D.py, PyData.depth], rfl⟩) fun x _ y _ => like_str x y
theorem ltD_ss (a b : Str) : ltD (.str a) (.str b) = ltS a b := ltD_str a b
def mxS (a b : Str) : Str := if ltS a b then b else a
def mnS (a b : Str) : Str := if ltS b a then b else a
theorem max_ss (a b : Str) (ha : PyData.strOk a = true) (hb : PyData.strOk b = true) : bltD .max [.str a, .str b] = some (.str (mxS a b)) := by
  have e : bltD .max [.str a, .str b] = if okAll [.str a, .str b] then some (maxD (.str a) [.str b]) else none := rfl
  rw [e, if_pos (okAll_ss a b ha hb)]
  simp only [maxD, List.foldl_cons, List.foldl_nil, ltD_ss, mxS]
  by_cases c : ltS a b = true
  · rw [if_pos c, if_pos c]
  · rw [if_neg c, if_neg c]
theorem min_ss (a b : Str) (ha : PyData.strOk a = true) (hb : PyData.strOk b = true) : bltD .min [.str a, .str b] = some (.str (mnS a b)) := by
  have e : bltD .min [.str a, .str b] = if okAll [.str a, .str b] then some (minD (.str a) [.str b]) else none := rfl
  rw [e, if_pos (okAll_ss a b ha hb)]
  simp only [minD, List.foldl_cons, List.foldl_nil, ltD_ss, mnS]
  by_cases c : ltS b a = true
  · rw [if_pos c, if_pos c]
  · rw [if_neg c, if_neg c]
theorem mxS_ok {a b : Str} (ha : PyData.strOk a = true) (hb : PyData.strOk b = true) : PyData.strOk (mxS a b) = true := by unfold mxS; split <;> assumption
theorem mnS_ok {a b : Str} (ha : PyData.strOk a = true) (hb : PyData.strOk b = true) : PyData.strOk (mnS a b) = true := by unfold mnS; split <;> assumption
/-- no own container in the slot -/
def nOwn : Slot → Bool
  | .own _ => false
  | _ => true
theorem noOwn_all {ρ : Env'} {is : List Nat} (h : ∀ i ∈ is, ∀ s, ρ[i]? = some s → nOwn s = true) : noOwn ρ is = true := by
  unfold noOwn
  rw [List.all_eq_true]
  intro i hi
  have := h i hi
  split
  · rename_i d hd
    exact absurd (this _ hd) (by simp [nOwn])
  · rfl
theorem le_st (a b c d : Int) : cmpD .LtE (.tup [.int a, .int b]) (.tup [.int c, .int d]) = some (!decide (c < a ∨ (c = a ∧ d < b))) := by
  simp [cmpD, okLt, fit_st, like_st, D.isNon, stlt]
theorem lt_st (a b c d : Int) : cmpD .Lt (.tup [.int a, .int b]) (.tup [.int c, .int d]) = some (decide (a < c ∨ (a = c ∧ b < d))) := by
  simp [cmpD, okLt, fit_st, like_st, D.isNon, stlt]
/-- one of a list, drawn -/
theorem atI_in {α : Type} {f : α → D} {xs : List α} {v : Int} (h : 0 ≤ v ∧ v < (xs.length : Int)) : ∃ x ∈ xs, atI (xs.map f) v = some (f x) := by
  obtain ⟨i, rfl⟩ := Int.eq_ofNat_of_zero_le h.1
  have hl : i < xs.length := by omega
  refine ⟨xs[i], List.getElem_mem hl, ?_⟩
  rw [Z.atI_nat (by simpa using hl)]
  simp [hl]
end Z

set_option Elab.async false
set_option linter.all false
set_option maxRecDepth 100000
set_option maxHeartbeats 1000000
namespace Z
open PySem PySem.Spec PyProof.Rows L2
@[simp high] theorem x_blt1 {G : Fns} {b : Bi} {e : Ex} {ρ : Env'} {S : Store} : evE G (.blt b (.cons e .nil)) ρ S = bnd (hOf e ρ S (evE G e ρ S)) (k := ⟨fun x => bnd (cont ρ x.2 x.1) (k := ⟨fun u => mp (bltD b [u]) (k := ⟨fun d => (d, x.2)⟩)⟩)⟩) := by
  rw [evE, evH]
  cases hOf e ρ S (evE G e ρ S) with
  | none => rfl
  | some x =>
    simp only [Option.bind_some, Option.map_some, bnd_some, evH]
    cases h : cont ρ x.2 x.1 with
    | none => simp [h, bnd]
    | some u => simp [h, bnd, mp]
@[simp high] theorem x_blt2 {G : Fns} {b : Bi} {e e' : Ex} {ρ : Env'} {S : Store} : evE G (.blt b (.cons e (.cons e' .nil))) ρ S = bnd (hOf e ρ S (evE G e ρ S)) (k := ⟨fun x => bnd (hOf e' ρ x.2 (evE G e' ρ x.2)) (k := ⟨fun y => bnd (cont ρ y.2 x.1) (k := ⟨fun u => bnd (cont ρ y.2 y.1) (k := ⟨fun v => mp (bltD b [u, v]) (k := ⟨fun d => (d, y.2)⟩)⟩)⟩)⟩)⟩) := by
  rw [evE, evH]
  cases hOf e ρ S (evE G e ρ S) with
  | none => rfl
  | some x =>
    simp only [Option.bind_some, Option.map_some, bnd_some, evH]
    cases hOf e' ρ x.2 (evE G e' ρ x.2) with
    | none => rfl
    | some y =>
      simp only [Option.bind_some, Option.map_some, bnd_some]
      cases h : cont ρ y.2 x.1 with
      | none => simp [h, bnd]
      | some u =>
        cases h' : cont ρ y.2 y.1 with
        | none => simp [h, h', bnd]
        | some v => simp [h, h', bnd, mp]
theorem len1 : (1 : Nat) ≤ sizeLine := by decide
theorem range_split {n x : Nat} {p q : List Nat} (h : List.range n = p ++ x :: q) : x = p.length ∧ x < n := by
  have hl : p.length < n := by
    have := congrArg List.length h
    simp at this; omega
  have h1 : (List.range n)[p.length]? = some x := by rw [h]; simp
  rw [List.getElem?_range hl] at h1
  cases h1
  exact ⟨rfl, hl⟩
/-- a comprehension that changes nothing, over anything -/
theorem comp_h {α : Type} {G : Fns} {t : Tg} {it : Z.It} {c : Ar} {e : Ex} {ρ : Env'} {S S1 : Store} {w : Hd} {f : α → D} {xs : List α} {g : α → Option D} (no : noOwn ρ t.ix = true) (hlk : lockS ρ S1 w = some (S1, none)) (hi : evI G it ρ S = some (w, xs.map f, S1)) (hs : ∀ x ∈ xs, stepC G t c e ρ (f x) S1 = some (g x, S1)) (hl : xs.length ≤ 1000) :
    evE G (.comp t it c e) ρ S = some (.lst (xs.filterMap g), S1) := by
  have big : (1000 : Nat) ≤ sizeLine := by decide
  have key : compGo (fun S' => cont ρ S' w = cont ρ S1 w) (stepC G t c e ρ) (xs.map f) S1 = some (xs.filterMap g, S1) := by
    clear hi hl
    induction xs with
    | nil => rfl
    | cons x xs ih =>
      unfold compGo
      rw [List.map_cons]
      simp only
      rw [hs x List.mem_cons_self]
      simp only [Option.bind_some]
      rw [if_pos (by trivial), ih (fun y hy => hs y (List.mem_cons_of_mem _ hy))]
      cases hg : g x <;> simp [hg]
  rw [evE, if_pos no, hi]
  simp only [Option.bind_some, hlk]
  refine Eq.trans (congrArg (fun z => Option.bind z _) key) ?_
  simp only [Option.bind_some, freeS]
  rw [if_pos (by have := List.length_filterMap_le g xs; omega)]
theorem comp_maph {α : Type} {G : Fns} {t : Tg} {it : Z.It} {e : Ex} {ρ : Env'} {S S1 : Store} {w : Hd} (f : α → D) (xs : List α) (g : α → D) (no : noOwn ρ t.ix = true) (hlk : lockS ρ S1 w = some (S1, none)) (hi : evI G it ρ S = some (w, xs.map f, S1)) (hs : ∀ x ∈ xs, ∃ ρ', bindT t (f x) (wipeS ρ t.ix) = some ρ' ∧ evE G e ρ' S1 = some (g x, S1)) (hl : xs.length ≤ 1000) :
    evE G (.comp t it .nil e) ρ S = some (.lst (xs.map g), S1) := by
  have := comp_h (c := .nil) (e := e) (g := fun x => some (g x)) no hlk hi (fun x hx => by
    obtain ⟨ρ', e1, e2⟩ := hs x hx
    simp [stepC, e1, e2]) hl
  rw [this]
  simp
theorem comp_keeph {α : Type} {G : Fns} {i : Nat} {it : Z.It} {c : Ex} {ρ : Env'} {S S1 : Store} {w : Hd} (f : α → D) (xs : List α) (p : α → Bool) (no : noOwn ρ [i] = true) (hlk : lockS ρ S1 w = some (S1, none)) (hi : evI G it ρ S = some (w, xs.map f, S1)) (hi2 : i < ρ.length)
    (hs : ∀ x ∈ xs, evE G c ((ρ.set i .un).set i (.fz (f x))) S1 = some (.bl (p x), S1)) (hl : xs.length ≤ 1000) :
    evE G (.comp (.nm i) it (.cons c .nil) (.var i)) ρ S = some (.lst ((xs.filter p).map f), S1) := by
  have := comp_h (t := .nm i) (c := .cons c .nil) (e := .var i) (g := fun x => if p x then some (f x) else none) no hlk hi (fun x hx => by
    have h := hs x hx
    have h' : evE G c ((wipeS ρ (Tg.nm i).ix).set i (.fz (f x))) S1 = some (.bl (p x), S1) := h
    have l' : i < (wipeS ρ (Tg.nm i).ix).length := by show i < (ρ.set i .un).length; simpa using hi2
    have g1 : ((wipeS ρ (Tg.nm i).ix).set i (.fz (f x)))[i]? = some (.fz (f x)) := List.getElem?_set_self l'
    cases hp : p x with
    | true => rw [hp] at h'; simp [stepC, bindT, h', g1]
    | false => rw [hp] at h'; simp [stepC, bindT, h']) hl
  rw [this]
  congr 3
  clear hs hl hi this
  induction xs with
  | nil => rfl
  | cons x xs ih =>
    cases hp : p x with
    | true => rw [List.filterMap_cons_some (b := f x) (by simp [hp]), List.filter_cons_of_pos hp, List.map_cons, ih]
    | false => rw [List.filterMap_cons_none (by simp [hp]), List.filter_cons_of_neg (by simp [hp]), ih]
theorem lock_ref {ρ : Env'} {S : Store} {m : Nat} {xs : List D} (h : S[m]? = some (.con (.lst xs))) : lockS ρ S (.val (.ref m)) = some (S, none) := by simp [lockS, h]
theorem lock_slot {ρ : Env'} {S : Store} {m : Nat} {xs : List D} (h : ρ[m]? = some (.own (.lst xs))) : lockS ρ S (.slot m) = some (S, none) := by simp [lockS, h]
theorem no_cnt {G : Fns} {t : Tg} {it : Z.It} {b : Sms} {ρ ρ' : Env'} {S S' : Store} (e : evS G (.for_ t it b) ρ S = some (.cnt ρ' S')) : False := by
  rw [evS] at e
  obtain ⟨w, _, e⟩ := Option.bind_eq_some_iff.mp e
  split at e
  · obtain ⟨l, _, e⟩ := Option.bind_eq_some_iff.mp e
    obtain ⟨o, _, e⟩ := Option.bind_eq_some_iff.mp e
    cases o <;> simp [Out.after] at e
  · cases e
/-- how a for's walk ends -/
theorem for_two {G : Fns} {t : Tg} {it : Z.It} {b : Sms} {ρ : Env'} {S : Store} {P : Env' → Store → Prop} {R : D → Store → Prop} (h : ∃ o, evS G (.for_ t it b) ρ S = some o ∧ Ends (fun ρ S => P ρ S ∨ False) (fun _ _ => False) R o) : (∃ ρ' S', evS G (.for_ t it b) ρ S = some (.nxt ρ' S') ∧ P ρ' S') ∨ ∃ d S', evS G (.for_ t it b) ρ S = some (.ret d S') ∧ R d S' := by
  obtain ⟨o, e, h⟩ := h
  cases o with
  | nxt ρ' S' => exact .inl ⟨ρ', S', e, h.elim id False.elim⟩
  | cnt ρ' S' => exact (no_cnt e).elim
  | brk ρ' S' => exact h.elim
  | ret d S' => exact .inr ⟨d, S', e, h⟩
end Z

set_option Elab.async false
set_option linter.all false
set_option maxRecDepth 100000
set_option maxHeartbeats 1000000
namespace Z
open PySem PySem.Spec PyProof.Rows L2
/-! # draws of the second kind -/
def bDraw : Sms :=
      (.cons (.ife (.cmp .Lt (.var 1) (.cst (.int 1))) (.cons (.ret (.cst (.int 0)))
      .nil) .nil)
      (.cons (.asg (.nm 2) (.idx (.var 0) (.cst (.int 0))))
      (.cons (.while_ (.and (.cmp .Gt (.blt .len (.cons (.var 2) .nil)) (.cst (.int 0))) (.cmp .Eq (.idx (.var 2) (.cst (.int 0))) (.cst (.int 0)))) (.cons (.pop none (.var 2) (.cons (.cst (.int 0)) .nil))
      .nil))
      (.cons (.ife (.cmp .Gt (.blt .len (.cons (.var 2) .nil)) (.cst (.int 0))) (.cons (.asg (.nm 4) (.idx (.var 2) (.cst (.int 0))))
      (.cons (.seti (.var 2) (.cst (.int 0)) (.bin .FloorDiv (.var 4) (.var 1)))
      (.cons (.ret (.bin .Mod (.blt .int (.cons (.var 4) .nil)) (.var 1)))
      .nil))) .nil)
      (.cons (.asg (.nm 3) (.bin .Mod (.blt .int (.cons (.bin .Add (.bin .Mult (.idx (.var 0) (.cst (.int 1))) (.cst (.int 48271))) (.cst (.int 12345))) .nil)) (.cst (.int 2147483647))))
      (.cons (.seti (.var 0) (.cst (.int 1)) (.var 3))
      (.cons (.ret (.bin .Mod (.blt .int (.cons (.bin .FloorDiv (.var 3) (.cst (.int 64))) .nil)) (.var 1)))
      .nil)))))))
def bState2 : Sms :=
      (.cons (.asg (.nm 1) (.cst (.int 7)))
      (.cons (.for_ (.nm 2) (.seq (.var 0)) (.cons (.asg (.nm 1) (.bin .Mod (.blt .int (.cons (.bin .Add (.bin .Mult (.var 1) (.cst (.int 31))) (.var 2)) .nil)) (.cst (.int 1000003))))
      .nil))
      (.cons (.ret (.mref (.list (.cons (.mref (.comp (.nm 2) (.seq (.var 0)) .nil (.blt .abs (.cons (.var 2) .nil)))) (.cons (.bin .Add (.var 1) (.cst (.int 1))) .nil)))))
      .nil)))

@[simp] theorem int_i {i : Int} : bltD .int [.int i] = some (.int i) := rfl
@[simp] theorem abs_i {i : Int} : bltD .abs [.int i] = some (.int (if i < 0 then -i else i)) := rfl
theorem mul_ii {i j : Int} (h : CMul i j) : binD .Mult (.int i) (.int j) = some (.int (i * j)) := by simp only [binD]; rw [if_pos h]
theorem div_ii {i j : Int} (h : CDiv i j) : binD .FloorDiv (.int i) (.int j) = some (.int (i / j)) := by simp only [binD]; rw [if_pos h]
theorem mod_ii {i j : Int} (h : 0 < j) : binD .Mod (.int i) (.int j) = some (.int (i % j)) := by simp only [binD]; rw [if_pos h]
structure Rnd2 (S : Store) (st c : Nat) (seed : Int) (cs : List Int) : Prop where
  at_ : S[st]? = some (.con (.lst [.ref c, .int seed]))
  row : S[c]? = some (.con (.lst (cs.map .int)))
  ne : st ≠ c
  len : cs.length ≤ 1000
  nn : ∀ x ∈ cs, 0 ≤ x
/-- what a draw may do -/
def Went2 (S : Store) (st c : Nat) (S' : Store) : Prop := (∃ seed cs, Rnd2 S' st c seed cs) ∧ S'.length = S.length ∧ ∀ k, k ≠ st → k ≠ c → S'[k]? = S[k]?
theorem Went2.trans {S S1 S2 : Store} {st c : Nat} (a : Went2 S st c S1) (b : Went2 S1 st c S2) : Went2 S st c S2 := ⟨b.1, b.2.1.trans a.2.1, fun k h1 h2 => (b.2.2 k h1 h2).trans (a.2.2 k h1 h2)⟩
theorem seqIndex0 {n : Nat} : seqIndex? 0 (n + 1) = some 0 := by
  unfold seqIndex?
  simp
  try omega
theorem len_pos {n : Nat} : (0 : Int) < ((n + 1 : Nat) : Int) := by omega
def drC : Ex := (.and (.cmp .Gt (.blt .len (.cons (.var 2) .nil)) (.cst (.int 0))) (.cmp .Eq (.idx (.var 2) (.cst (.int 0))) (.cst (.int 0))))
def drB : Sms := (.cons (.pop none (.var 2) (.cons (.cst (.int 0)) .nil)) .nil)
theorem set_set {S : Store} {c : Nat} {x y : Cell} : (S.set c x).set c y = S.set c y := by simp
theorem set_id {S : Store} {c : Nat} {x : Cell} (h : S[c]? = some x) : S.set c x = S := by
  obtain ⟨hl, he⟩ := List.getElem?_eq_some_iff.mp h
  rw [← he]; simp
theorem drop_zeros (G : Fns) {st c : Nat} {m : Int} {x3 x4 : Slot} : ∀ (cs : List Int) (n : Nat) (S : Store), S[c]? = some (.con (.lst (cs.map .int))) → cs.length < n →
    whGo (fun ρ' S' => (evE G drC ρ' S').bind fun x => (blOf x.1).map fun k => (k, x.2)) (fun ρ' S' => evSs G drB ρ' S') n [.fz (.ref st), .fz (.int m), .fz (.ref c), x3, x4] S = some (.nxt [.fz (.ref st), .fz (.int m), .fz (.ref c), x3, x4] (S.set c (.con (.lst ((cs.dropWhile (· = 0)).map .int)))))
  | [], n + 1, S, h, _ => by
    have e : evE G drC [.fz (.ref st), .fz (.int m), .fz (.ref c), x3, x4] S = some (.bl false, S) := by
      have h' : S[c]? = some (.con (.lst [])) := h
      simp -implicitDefEqProofs [drC, hOf, h', Cst.d, gt_ii]
    unfold whGo
    simp only [e, Option.bind_some, blOf_bl, Option.map_some, Bool.false_eq_true, if_false]
    rw [List.dropWhile_nil, set_id h]
  | x :: cs, n + 1, S, h, hl => by
    by_cases hx : x = 0
    · subst hx
      have h' : S[c]? = some (.con (.lst (.int 0 :: cs.map .int))) := h
      have p0 : (0 : Int) < (cs.length : Int) + 1 := by omega
      have e : evE G drC [.fz (.ref st), .fz (.int m), .fz (.ref c), x3, x4] S = some (.bl true, S) := by
        simp -implicitDefEqProofs [drC, hOf, h', Cst.d, gt_ii, Z.atI0, eq_ii, p0]
      have s0 : smallI 0 = true := by decide +kernel
      have e2 : evSs G drB [.fz (.ref st), .fz (.int m), .fz (.ref c), x3, x4] S = some (.nxt [.fz (.ref st), .fz (.int m), .fz (.ref c), x3, x4] (S.set c (.con (.lst (cs.map .int))))) := by
        simp -implicitDefEqProofs [drB, hOf, h', Cst.d, popD, s0, seqIndex0, putC, setC, isLst, isDct]
      have hc : (S.set c (.con (.lst (cs.map .int))))[c]? = some (.con (.lst (cs.map .int))) := List.getElem?_set_self (List.getElem?_eq_some_iff.mp h).1
      unfold whGo
      simp only [e, Option.bind_some, blOf_bl, Option.map_some, if_true, e2]
      rw [drop_zeros G cs n _ hc (by simp at hl; omega), set_set]
      simp [List.dropWhile]
    · have h' : S[c]? = some (.con (.lst (.int x :: cs.map .int))) := h
      have p0 : (0 : Int) < (cs.length : Int) + 1 := by omega
      have e : evE G drC [.fz (.ref st), .fz (.int m), .fz (.ref c), x3, x4] S = some (.bl false, S) := by
        simp -implicitDefEqProofs [drC, hOf, h', Cst.d, gt_ii, Z.atI0, eq_ii, p0, hx]
      unfold whGo
      simp only [e, Option.bind_some, blOf_bl, Option.map_some, Bool.false_eq_true, if_false]
      have : (x :: cs).dropWhile (· = 0) = x :: cs := by simp [List.dropWhile, hx]
      rw [this, set_id h]
theorem drop_mem {cs : List Int} : ∀ x ∈ cs.dropWhile (· = 0), x ∈ cs := fun x h => (List.dropWhile_sublist _).subset h
theorem drop_len (cs : List Int) : (cs.dropWhile (· = 0)).length ≤ cs.length := (List.dropWhile_sublist _).length_le
theorem draw1 (G : Fns) {S : Store} {st c : Nat} {seed : Int} {cs : List Int} (R : Rnd2 S st c seed cs) (most : Int) (hm2 : most < 1073741824) :
    ∃ v S', evSs G bDraw [.fz (.ref st), .fz (.int most), .un, .un, .un] S = some (.ret (.int v) S') ∧ (0 < most → 0 ≤ v ∧ v < most) ∧ Went2 S st c S' := by
  have R' := R
  obtain ⟨h1, h2, h3, h4, h5⟩ := R
  by_cases hm : 0 < most
  case neg =>
    have hlt : most < 1 := by omega
    refine ⟨0, S, ?_, fun h => absurd h hm, ⟨seed, cs, R'⟩, rfl, fun _ _ _ => rfl⟩
    simp -implicitDefEqProofs [bDraw, Cst.d, hOf, lt_ii, hlt]
  have hlt : ¬ most < 1 := by omega
  have hdiv : ∀ (x : Int), CDiv x most := fun x => ⟨hm, hm2⟩
  have hst := (List.getElem?_eq_some_iff.mp h1).1
  have hcl := (List.getElem?_eq_some_iff.mp h2).1
  have ew : evS G (.while_ drC drB) [.fz (.ref st), .fz (.int most), .fz (.ref c), .un, .un] S = some (.nxt [.fz (.ref st), .fz (.int most), .fz (.ref c), .un, .un] (S.set c (.con (.lst ((cs.dropWhile (· = 0)).map .int))))) := by
    rw [x_evS_while_]
    exact drop_zeros G cs whMost S h2 (by have : (1000 : Nat) < whMost := by decide
                                          omega)
  have e0 : evS G (.ife (.cmp .Lt (.var 1) (.cst (.int 1))) (.cons (.ret (.cst (.int 0))) .nil) .nil) [.fz (.ref st), .fz (.int most), .un, .un, .un] S = some (.nxt [.fz (.ref st), .fz (.int most), .un, .un, .un] S) := by
    simp -implicitDefEqProofs [Cst.d, hOf, lt_ii, hlt]
  have e1 : evS G (.asg (.nm 2) (.idx (.var 0) (.cst (.int 0)))) [.fz (.ref st), .fz (.int most), .un, .un, .un] S = some (.nxt [.fz (.ref st), .fz (.int most), .fz (.ref c), .un, .un] S) := by
    simp -implicitDefEqProofs [Cst.d, hOf, h1, Z.atI0, bindT]
  unfold bDraw
  rw [seq1 e0, seq1 e1]
  have ew' : evS G (.while_ (.and (.cmp .Gt (.blt .len (.cons (.var 2) .nil)) (.cst (.int 0))) (.cmp .Eq (.idx (.var 2) (.cst (.int 0))) (.cst (.int 0)))) (.cons (.pop none (.var 2) (.cons (.cst (.int 0)) .nil)) .nil)) [.fz (.ref st), .fz (.int most), .fz (.ref c), .un, .un] S = _ := ew
  rw [seq1 ew']
  have hdm := fun x => @drop_mem cs x
  have hdl := drop_len cs
  generalize cs.dropWhile (· = 0) = ds at *
  have g1 : (S.set c (.con (.lst (ds.map .int))))[st]? = some (.con (.lst [.ref c, .int seed])) := by rw [List.getElem?_set_ne h3.symm]; exact h1
  have g2 : (S.set c (.con (.lst (ds.map .int))))[c]? = some (.con (.lst (ds.map .int))) := List.getElem?_set_self hcl
  have gl : (S.set c (.con (.lst (ds.map .int)))).length = S.length := by simp
  have gk : ∀ k, k ≠ st → k ≠ c → (S.set c (.con (.lst (ds.map .int))))[k]? = S[k]? := fun k _ hk => List.getElem?_set_ne hk.symm
  generalize S.set c (.con (.lst (ds.map .int))) = S1 at *
  cases ds with
  | nil =>
    have g2' : S1[c]? = some (.con (.lst [])) := g2
    have hm1 : CMul seed 48271 := .inr ⟨by decide, by decide⟩
    have hd64 : ∀ a : Int, CDiv a 64 := fun a => ⟨by decide, by decide⟩
    have ix1 : ixN 2 1 = some 1 := by decide
    refine ⟨(seed * 48271 + 12345) % 2147483647 / 64 % most, S1.set st (.con (.lst [.ref c, .int ((seed * 48271 + 12345) % 2147483647)])), ?_, fun _ => ⟨Int.emod_nonneg _ (by omega), Int.emod_lt_of_pos _ hm⟩, ⟨_, [], ⟨List.getElem?_set_self (by omega), by rw [List.getElem?_set_ne h3]; exact g2, h3, by decide, fun x h => absurd h (by simp)⟩⟩, by simp [gl], fun k hk1 hk2 => by rw [List.getElem?_set_ne hk1.symm]; exact gk k hk1 hk2⟩
    simp -implicitDefEqProofs [hOf, g1, g2', Cst.d, gt_ii, Z.atI1, mul_ii, div_ii, mod_ii, hm1, hd64, hdiv, bindT, setItem', ix1, putC, setC, hm]
  | cons v ds =>
    have g2' : S1[c]? = some (.con (.lst (.int v :: ds.map .int))) := g2
    have p0 : (0 : Int) < (ds.length : Int) + 1 := by omega
    have hv : 0 ≤ v := h5 v (hdm v List.mem_cons_self)
    have ix0 : ixN (ds.length + 1) 0 = some 0 := Z.ixN_nat (j := 0) (by omega)
    refine ⟨v % most, S1.set c (.con (.lst ((v / most :: ds).map .int))), ?_, fun _ => ⟨Int.emod_nonneg _ (by omega), Int.emod_lt_of_pos _ hm⟩, ⟨seed, v / most :: ds, ⟨by rw [List.getElem?_set_ne h3.symm]; exact g1, List.getElem?_set_self (by omega), h3, by simp at hdl ⊢; omega, fun x h => ?_⟩⟩, by simp [gl], fun k hk1 hk2 => by rw [List.getElem?_set_ne hk2.symm]; exact gk k hk1 hk2⟩
    · simp -implicitDefEqProofs [hOf, g2', Cst.d, gt_ii, Z.atI0, div_ii, mod_ii, hdiv, bindT, setItem', ix0, putC, setC, hm, p0]
    · rcases List.mem_cons.mp h with rfl | h
      · exact Int.ediv_nonneg hv (by omega)
      · exact h5 x (hdm x (List.mem_cons_of_mem _ h))
theorem draw_ok {T : Prog} (at_draw : T.defs.lookup (("_law_draw", none) : Str × Option Str) = some (⟨2, 5, bDraw⟩ : Fd)) {n : Nat} {S : Store} {st c : Nat} {seed : Int} {cs : List Int} (R : Rnd2 S st c seed cs) (most : Int) (h : most < 1073741824) : ∃ v S', runF T (n + 1) ("_law_draw", none) [.ref st, .int most] S = some (.int v, S') ∧ (0 < most → 0 ≤ v ∧ v < most) ∧ Went2 S st c S' := by
  obtain ⟨v, S', e, d⟩ := draw1 (run T n) R most h
  refine ⟨v, S', ?_, d⟩
  rw [run_def at_draw _ _ rfl]
  show (evSs (run T n) bDraw [.fz (.ref st), .fz (.int most), .un, .un, .un] S).bind _ = _
  rw [e]; rfl
/-- a for over what does not change -/
theorem for_w {α : Type} {G : Fns} {t : Tg} {it : Z.It} {b : Sms} {ρ : Env'} {S S1 : Store} {w : Hd} {u : D} (f : α → D) (xs : List α) (P : List α → Env' → Store → Prop) (hw : noSlot w = true) (hi : evI G it ρ S = some (w, xs.map f, S1)) (hl : lockS ρ S1 w = some (S1, none)) (hc : cont ρ S1 w = some u) (hP : ∀ p ρ S, P p ρ S → cont ρ S w = some u) (h0 : P [] ρ S1)
    (hf : ∀ p x q, xs = p ++ x :: q → ∀ ρ S, P p ρ S → ∃ ρ2 ρ' S', bindT t (f x) ρ = some ρ2 ∧ evSs G b ρ2 S = some (.nxt ρ' S') ∧ P (p ++ [x]) ρ' S') : ∃ ρ' S', evS G (.for_ t it b) ρ S = some (.nxt ρ' S') ∧ P xs ρ' S' := by
  obtain ⟨o, e, h⟩ := forGo_gen (kp := fun S' ρ' => cont ρ' S' w = cont ρ S1 w) (f := fun d ρ' S' => (bindT t d ρ').bind fun ρ2 => evSs G b ρ2 S') (P := fun p ρ S => P (xs.take p.length) ρ S) (B := fun _ _ => False) (R := fun _ _ => False) (fun p ρ' S' h => by rw [hP _ _ _ h, hc]) (fun ρ' S' h => h.elim) (fun _ ρ' S' d S2 _ h => h.elim) (xs.map f) [] (fun p x q hq ρ S hp => by
    obtain ⟨y, e1, e2, e3⟩ := map_split hq
    obtain ⟨ρ2, ρ', S', a1, a2, a3⟩ := hf _ y _ e1 ρ S hp
    refine ⟨.nxt ρ' S', by rw [← e2, a1]; exact a2, ?_⟩
    show P (xs.take ([] ++ p ++ [x]).length) ρ' S'
    rw [List.nil_append, e3]; exact a3) ρ S1 h0
  have hev : evS G (.for_ t it b) ρ S = o.after none := by
    rw [evS, hi]
    simp only [Option.bind_some, hw, if_true, hl]
    rw [e]
    rfl
  rw [hev]
  cases o with
  | nxt ρ S => exact ⟨ρ, S, rfl, by simpa [Ends] using h⟩
  | cnt ρ S => exact ⟨ρ, S, rfl, by simpa [Ends] using h⟩
  | brk ρ S => exact h.elim
  | ret d S => exact h.elim
theorem lock_lck {ρ : Env'} {S : Store} {m : Nat} {u : D} (h : S[m]? = some (.lck u)) : lockS ρ S (.val (.ref m)) = some (S, none) := by simp [lockS, h]
theorem state2_ok {T : Prog} (at_state : T.defs.lookup (("_law_state", none) : Str × Option Str) = some (⟨1, 3, bState2⟩ : Fd)) {n : Nat} {S : Store} {ns : List Int} (h : S[0]? = some (.lck (.lst (ns.map .int)))) (hl : ns.length ≤ 63) :
    ∃ st c S' seed cs, runF T (n + 1) ("_law_state", none) [.ref 0] S = some (.ref st, S') ∧ Rnd2 S' st c seed cs ∧ S.length ≤ st ∧ S.length ≤ c ∧ ∀ k, k < S.length → S'[k]? = S[k]? := by
  rw [run_def at_state _ _ rfl]
  show ∃ st c S' seed cs, (evSs (Z.run T n) bState2 [.fz (.ref 0), .un, .un] S).bind outR = _ ∧ _
  have hc0 : ∀ ρ, cont ρ S (.val (.ref 0)) = some (.lst (ns.map .int)) := fun ρ => by simp [h]
  have hi : ∀ ρ : Env', ρ[0]? = some (.fz (.ref 0)) → evI (Z.run T n) (.seq (.var 0)) ρ S = some (.val (.ref 0), ns.map .int, S) := fun ρ h0 => by
    simp -implicitDefEqProofs [hOf, h0, h]
  have e0 : evS (Z.run T n) (.asg (.nm 1) (.cst (.int 7))) [.fz (.ref 0), .un, .un] S = some (.nxt [.fz (.ref 0), .fz (.int 7), .un] S) := by
    simp -implicitDefEqProofs [Cst.d, bindT]
  obtain ⟨ρ', S', e1, rfl, seed, x2, n2, rfl⟩ := for_w (G := Z.run T n) (t := .nm 2) (it := .seq (.var 0)) (b := (.cons (.asg (.nm 1) (.bin .Mod (.blt .int (.cons (.bin .Add (.bin .Mult (.var 1) (.cst (.int 31))) (.var 2)) .nil)) (.cst (.int 1000003)))) .nil)) (ρ := [.fz (.ref 0), .fz (.int 7), .un]) D.int ns (fun _ ρ S' => S' = S ∧ ∃ (seed : Int) (x2 : Slot), nOwn x2 = true ∧ ρ = [.fz (.ref 0), .fz (.int seed), x2]) rfl (hi _ rfl) (lock_lck h) (hc0 _) (fun p ρ S' h => by rw [h.1]; exact hc0 ρ) ⟨rfl, 7, .un, rfl, rfl⟩
    (fun p x q hq ρ S' ⟨h1, seed, x2, _, h2⟩ => by
      subst h1 h2
      have hm1 : CMul seed 31 := .inr ⟨by decide, by decide⟩
      refine ⟨[.fz (.ref 0), .fz (.int seed), .fz (.int x)], [.fz (.ref 0), .fz (.int ((seed * 31 + x) % 1000003)), .fz (.int x)], S', rfl, ?_, rfl, _, _, rfl, rfl⟩
      simp -implicitDefEqProofs [hOf, Cst.d, mul_ii, mod_ii, hm1, bindT])
  have no1 : noOwn [.fz (.ref 0), .fz (.int seed), x2] [2] = true := by cases x2 <;> first | rfl | (simp [nOwn] at n2)
  have e2 := comp_maph (G := Z.run T n) (t := .nm 2) (it := .seq (.var 0)) (e := .blt .abs (.cons (.var 2) .nil)) (ρ := [.fz (.ref 0), .fz (.int seed), x2]) (S := S') (S1 := S') (w := .val (.ref 0)) D.int ns (fun i => D.int (if i < 0 then -i else i)) no1 (lock_lck h) (hi _ rfl)
    (fun x hx => ⟨[.fz (.ref 0), .fz (.int seed), .fz (.int x)], rfl, by simp -implicitDefEqProofs [hOf]⟩) (by omega)
  refine ⟨S'.length + 1, S'.length, S' ++ [.con (.lst ((ns.map fun i => if i < 0 then -i else i).map .int)), .con (.lst [.ref S'.length, .int (seed + 1)])], seed + 1, ns.map fun i => if i < 0 then -i else i, ?_, ⟨by rw [List.getElem?_append_right (by omega)]; simp, by rw [List.getElem?_append_right (Nat.le_refl _)]; simp, by omega, by rw [List.length_map]; omega, fun x hx => ?_⟩, by omega, by omega, fun k hk => by rw [List.getElem?_append_left hk]⟩
  · unfold bState2
    rw [seq1 e0, seq1 e1]
    have mm : (ns.map fun i => D.int (if i < 0 then -i else i)) = (ns.map fun i => if i < 0 then -i else i).map .int := by rw [List.map_map]; rfl
    rw [mm] at e2
    generalize (ns.map fun i => if i < 0 then -i else i).map D.int = L at *
    simp -implicitDefEqProofs [e2, newRef, hOf, Cst.d, len2, outR]
  · obtain ⟨i, _, rfl⟩ := List.mem_map.mp hx
    split <;> omega
end Z

set_option Elab.async false
set_option linter.all false
set_option maxRecDepth 100000
set_option maxHeartbeats 1000000
namespace Z
open PySem PySem.Spec PyProof.Rows L2
/-- a dict comprehension that changes nothing, over anything, no filter -/
theorem dcomp_maph {α : Type} {G : Fns} {t : Tg} {it : Z.It} {ek ev : Ex} {ρ : Env'} {S S1 : Store} {w : Hd} (f : α → D) (xs : List α) (gk gv : α → D) {es : List (Key × D)} (no : noOwn ρ t.ix = true) (hlk : lockS ρ S1 w = some (S1, none)) (hi : evI G it ρ S = some (w, xs.map f, S1))
    (hs : ∀ x ∈ xs, ∃ ρ', bindT t (f x) (wipeS ρ t.ix) = some ρ' ∧ evE G ek ρ' S1 = some (gk x, S1) ∧ evE G ev ρ' S1 = some (gv x, S1)) (hl : xs.length ≤ 1000) (hm : mkd (xs.map fun x => .tup [gk x, gv x]) [] = some es) :
    evE G (.dcomp t it .nil ek ev) ρ S = some (.dK es, S1) := by
  have big : (1000 : Nat) ≤ sizeLine := by decide
  have key : compGo (fun S' => cont ρ S' w = cont ρ S1 w) (fun d S' => (bindT t d (wipeS ρ t.ix)).bind fun ρ' => (evE G ek ρ' S').bind fun r => (evE G ev ρ' r.2).map fun q => (some (.tup [r.1, q.1]), q.2)) (xs.map f) S1 = some (xs.map fun x => .tup [gk x, gv x], S1) := by
    clear hi hl hm
    induction xs with
    | nil => rfl
    | cons x xs ih =>
      unfold compGo
      rw [List.map_cons]
      simp only
      obtain ⟨ρ', e1, e2, e3⟩ := hs x List.mem_cons_self
      simp only [e1, e2, e3, Option.bind_some, Option.map_some]
      rw [if_pos (by trivial), ih (fun y hy => hs y (List.mem_cons_of_mem _ hy))]
      simp
  rw [evE, if_pos no, hi]
  simp only [Option.bind_some, hlk]
  refine Eq.trans (congrArg (fun z => Option.bind z _) key) ?_
  simp only [Option.bind_some, freeS, List.length_map]
  rw [if_pos (by omega), hm]
  rfl
theorem in_ints (l : List Int) (x : Int) : cmpD .In (.int x) (.lst (l.map .int)) = some (decide (x ∈ l)) := by
  have h : fits (l.map D.int) = true := fits_map l D.int fun _ _ => ⟨by simp [D.plain], by simp [D.dep, D.py, PyData.depth]⟩
  have e : ((l.map D.int).any fun b => eqD b (.int x)) = decide (x ∈ l) := by
    rw [List.any_map, Bool.eq_iff_iff]
    simp [List.any_eq_true, Function.comp, eqD_int]
  simp only [cmpD, fit_int, h, Bool.and_self, if_true, e]
theorem ints_ne {xs ys : List Int} : cmpD .NotEq (.lst (xs.map .int)) (.lst (ys.map .int)) = some (!decide (xs = ys)) :=
  (cmpL (f := D.int) (I := fun _ => True) (fun x y _ _ => eqD_int x y) (fun x => ⟨by simp [D.plain], by simp [D.dep, D.py, PyData.depth]⟩) (fun _ _ => trivial) (fun _ _ => trivial)).2
theorem sortI_mem {l : List Int} {x : Int} : x ∈ sortI l ↔ x ∈ l := (List.mergeSort_perm _ _).mem_iff
theorem sortI_pw {l : List Int} (h : l.Nodup) : (sortI l).Pairwise (· < ·) := by
  have h1 : (sortI l).Pairwise (fun a b => decide (a ≤ b) = true) := List.pairwise_mergeSort (fun a b c h1 h2 => by simp at *; omega) (fun a b => by simp; omega) l
  have h2 : (sortI l).Nodup := (List.mergeSort_perm _ _).nodup_iff.mpr h
  exact h1.imp₂ (fun a b h1 h2 => by have := of_decide_eq_true h1; omega) h2
theorem sortI_len {l : List Int} : (sortI l).length = l.length := List.length_mergeSort _
end Z

set_option Elab.async false
set_option linter.all false
set_option maxRecDepth 100000
set_option maxHeartbeats 1000000
set_option exponentiation.threshold 4000
namespace Z
open PySem PySem.Spec PyProof.Rows L2
/-! # texts of small things: leaves bounded, nodes counted -/
def txI (i : Int) : Bool := decide (-1000000 ≤ i) && decide (i ≤ 1000000)
def txS (x : Str) : Bool := PyData.strOk (reprText x) && decide ((reprText x).length ≤ 1000)
def txK : Key → Bool
  | .inl i => txI i
  | .inr x => txS x
mutual
def D.lf : D → Bool
  | .non => true | .bl _ => true | .int i => txI i | .str x => txS x
  | .lst xs => lfs xs | .tup xs => lfs xs
  | .dK es => lfk es
  | .dT _ => false | .ref _ => false
  | .ctup xs => lfs xs
def lfs : List D → Bool
  | [] => true
  | x :: xs => x.lf && lfs xs
def lfp : Key × D → Bool
  | (k, d) => txK k && d.lf
def lfk : List (Key × D) → Bool
  | [] => true
  | x :: xs => lfp x && lfk xs
end
mutual
def D.nd : D → Nat
  | .lst xs => 1 + nds xs | .tup xs => 1 + nds xs
  | .dK es => 1 + ndk es
  | .non => 1 | .bl _ => 1 | .int _ => 1 | .str _ => 1
  | .dT _ => 1 | .ref _ => 1
  | .ctup xs => 1 + nds xs
def nds : List D → Nat
  | [] => 0
  | x :: xs => x.nd + nds xs
def ndp : Key × D → Nat
  | (_, d) => 1 + d.nd
def ndk : List (Key × D) → Nat
  | [] => 0
  | x :: xs => ndp x + ndk xs
end
mutual
def D.dp : D → Nat
  | .lst xs => 1 + dps xs | .tup xs => 1 + dps xs
  | .dK es => 1 + dpk es
  | .non => 0 | .bl _ => 0 | .int _ => 0 | .str _ => 0
  | .dT _ => 0 | .ref _ => 0
  | .ctup xs => 1 + dps xs
def dps : List D → Nat
  | [] => 0
  | x :: xs => max x.dp (dps xs)
def dpp : Key × D → Nat
  | (_, d) => d.dp
def dpk : List (Key × D) → Nat
  | [] => 0
  | x :: xs => max (dpp x) (dpk xs)
end
theorem nd_pos : ∀ d : D, 1 ≤ d.nd
  | .lst _ => by rw [D.nd]; omega
  | .tup _ => by rw [D.nd]; omega
  | .dK _ => by rw [D.nd]; omega
  | .non => by rw [D.nd]; omega
  | .bl _ => by rw [D.nd]; omega
  | .int _ => by rw [D.nd]; omega
  | .str _ => by rw [D.nd]; omega
  | .dT _ => by rw [D.nd]; omega
  | .ref _ => by rw [D.nd]; omega
  | .ctup _ => by rw [D.nd]; omega
/-- all texts of a list together -/
def tot : List Str → Nat
  | [] => 0
  | t :: ts => t.length + 2 + tot ts
def Tx (m : Nat) (x : PyData) : Prop := x.showable = true ∧ PyData.strOk x.shown = true ∧ x.shown.length + 2 ≤ 1010 * m
theorem join_tot : ∀ ts : List Str, (∀ t ∈ ts, PyData.strOk t = true) → PyData.strOk (Str.join ", " ts) = true ∧ (Str.join ", " ts).length ≤ tot ts
  | [], _ => ⟨by decide +kernel, by rw [show Str.join ", " ([] : List Str) = Str.empty from rfl]; exact Nat.zero_le _⟩
  | [t], h => by
    rw [show Str.join ", " [t] = t from rfl]
    exact ⟨h t List.mem_cons_self, by simp [tot]⟩
  | t :: u :: r, h => by
    obtain ⟨c, d⟩ := join_tot (u :: r) fun z hz => h z (List.mem_cons_of_mem _ hz)
    rw [show Str.join ", " (t :: u :: r) = t ++ ", " ++ Str.join ", " (u :: r) from rfl]
    refine ⟨by rw [strOk_app, strOk_app, h t List.mem_cons_self, c]; decide +kernel, ?_⟩
    rw [len_app, len_app]
    have e : (", " : Str).length = 2 := rfl
    rw [e]
    rw [show tot (t :: u :: r) = t.length + 2 + tot (u :: r) from rfl]
    omega
theorem listText_tot {ts : List Str} (h : ∀ t ∈ ts, PyData.strOk t = true) : PyData.strOk (listText ts) = true ∧ (listText ts).length ≤ tot ts + 2 := by
  obtain ⟨a, b⟩ := join_tot ts h
  rw [listText_eq_join]
  refine ⟨by rw [strOk_app, strOk_app, a]; decide +kernel, ?_⟩
  rw [len_app, len_app]
  have e : ("[" : Str).length = 1 := rfl
  have e2 : ("]" : Str).length = 1 := rfl
  rw [e, e2]; omega
theorem dictText_tot {ts : List Str} (h : ∀ t ∈ ts, PyData.strOk t = true) : PyData.strOk (dictText ts) = true ∧ (dictText ts).length ≤ tot ts + 2 := by
  obtain ⟨a, b⟩ := join_tot ts h
  unfold dictText
  refine ⟨by rw [strOk_app, strOk_app, a]; decide +kernel, ?_⟩
  rw [len_app, len_app]
  have e : ("{" : Str).length = 1 := rfl
  have e2 : (("}" : String) : Str).length = 1 := rfl
  rw [e, e2]; omega
theorem tupleText_tot {ts : List Str} (h : ∀ t ∈ ts, PyData.strOk t = true) : PyData.strOk (tupleText ts) = true ∧ (tupleText ts).length ≤ tot ts + 3 := by
  obtain ⟨a, b⟩ := join_tot ts h
  unfold tupleText
  by_cases c : (ts.length == 1) = true
  · rw [if_pos c]
    refine ⟨by rw [strOk_app, strOk_app, a]; decide +kernel, ?_⟩
    rw [len_app, len_app]
    have e : ("(" : Str).length = 1 := rfl
    have e2 : ((",)" : String) : Str).length = 2 := rfl
    rw [e, e2]; omega
  · rw [if_neg c]
    refine ⟨by rw [strOk_app, strOk_app, a]; decide +kernel, ?_⟩
    rw [len_app, len_app]
    have e : ("(" : Str).length = 1 := rfl
    have e2 : ((")" : String) : Str).length = 1 := rfl
    rw [e, e2]; omega
theorem tx_int {i : Int} (h : txI i = true) : Tx 1 (.int i) := by
  unfold txI at h
  simp only [Bool.and_eq_true, decide_eq_true_eq] at h
  obtain ⟨h1, h2⟩ := h
  have h3 : i.natAbs < 2 ^ 1920 := Nat.lt_of_lt_of_le (show i.natAbs < 2 ^ 20 by omega) (Nat.pow_le_pow_right (by decide) (by decide))
  refine ⟨?_, ?_, ?_⟩
  · simp only [PyData.showable, decide_eq_true_eq]
    by_cases h0 : i.natAbs = 0
    · rw [h0]; decide
    · exact (Nat.log2_lt h0).mpr h3
  · unfold PyData.strOk
    rw [← Array.all_toList, List.all_eq_true]
    intro c hc
    rw [decide_eq_true_eq]
    by_cases hk : c ≠ 45 ∧ (c < 48 ∨ 57 < c)
    · exact absurd hc (shown_int_free' hk i)
    · omega
  · have := PyData.shown_int_le2 (i := i) (by omega) (by omega)
    omega
theorem tx_str {x : Str} (h : txS x = true) : Tx 1 (.str x) := by
  unfold txS at h
  simp only [Bool.and_eq_true, decide_eq_true_eq] at h
  exact ⟨by simp [PyData.showable], by simpa [PyData.shown] using h.1, by simp only [PyData.shown]; omega⟩
theorem tx_key {k : Key} (h : txK k = true) : Tx 1 (keyP k) := by
  cases k with
  | inl i => exact tx_int h
  | inr x => exact tx_str h
mutual
theorem tx_of : ∀ d : D, d.lf = true → Tx d.nd d.pyr
  | .non, _ => by rw [D.pyr, D.nd]; exact ⟨by decide +kernel, by decide +kernel, by decide +kernel⟩
  | .bl b, _ => by rw [D.pyr, D.nd]; cases b <;> exact ⟨by decide +kernel, by decide +kernel, by decide +kernel⟩
  | .int i, h => by rw [D.pyr, D.nd]; rw [D.lf] at h; exact tx_int h
  | .str x, h => by rw [D.pyr, D.nd]; rw [D.lf] at h; exact tx_str h
  | .lst xs, h => by
    rw [D.lf] at h
    obtain ⟨a, b, c⟩ := txs_of xs h
    rw [D.pyr, D.nd]
    have := listText_tot b
    exact ⟨by simpa [PyData.showable] using a, by simpa only [PyData.shown] using this.1, by simp only [PyData.shown]; omega⟩
  | .tup xs, h => by
    rw [D.lf] at h
    obtain ⟨a, b, c⟩ := txs_of xs h
    rw [D.pyr, D.nd]
    have := tupleText_tot b
    exact ⟨by simpa [PyData.showable] using a, by simpa only [PyData.shown] using this.1, by simp only [PyData.shown]; omega⟩
  | .ctup xs, h => by
    rw [D.lf] at h
    obtain ⟨a, b, c⟩ := txs_of xs h
    rw [D.pyr, D.nd]
    have := tupleText_tot b
    exact ⟨by simpa [PyData.showable] using a, by simpa only [PyData.shown] using this.1, by simp only [PyData.shown]; omega⟩
  | .dK es, h => by
    rw [D.lf] at h
    obtain ⟨a, b, c⟩ := txk_of es h
    rw [D.pyr, D.nd]
    have := dictText_tot b
    exact ⟨by simpa [PyData.showable] using a, by simpa only [PyData.shown] using this.1, by simp only [PyData.shown]; omega⟩
  | .dT _, h => by rw [D.lf] at h; cases h
  | .ref _, h => by rw [D.lf] at h; cases h
theorem txs_of : ∀ xs : List D, lfs xs = true → PyData.showableAll (pyrs xs) = true ∧ (∀ t ∈ PyData.shownAll (pyrs xs), PyData.strOk t = true) ∧ tot (PyData.shownAll (pyrs xs)) ≤ 1010 * nds xs
  | [], _ => ⟨by simp [pyrs, PyData.showableAll], fun t h => by simp [pyrs, PyData.shownAll] at h, by simp [pyrs, PyData.shownAll, tot]⟩
  | x :: xs, h => by
    rw [lfs, Bool.and_eq_true] at h
    obtain ⟨a, b, c⟩ := txs_of xs h.2
    obtain ⟨d, e, f⟩ := tx_of x h.1
    rw [pyrs, nds]
    refine ⟨by simp [PyData.showableAll, a, d], fun t ht => ?_, ?_⟩
    · simp only [PyData.shownAll, List.mem_cons] at ht
      rcases ht with rfl | ht
      · exact e
      · exact b t ht
    · rw [PyData.shownAll, tot]; omega
theorem txk_of : ∀ es : List (Key × D), lfk es = true → PyData.showableKv (pyrk es) = true ∧ (∀ t ∈ PyData.shownKv (pyrk es), PyData.strOk t = true) ∧ tot (PyData.shownKv (pyrk es)) ≤ 1010 * ndk es
  | [], _ => ⟨by simp [pyrk, PyData.showableKv], fun t h => by simp [pyrk, PyData.shownKv] at h, by simp [pyrk, PyData.shownKv, tot]⟩
  | (k, x) :: xs, h => by
    rw [lfk, lfp, Bool.and_eq_true, Bool.and_eq_true] at h
    obtain ⟨a, b, c⟩ := txk_of xs h.2
    obtain ⟨d, e, f⟩ := tx_of x h.1.2
    obtain ⟨d', e', f'⟩ := tx_key h.1.1
    rw [pyrk, pyrp, ndk, ndp]
    refine ⟨by simp [PyData.showableKv, a, d, d'], fun t ht => ?_, ?_⟩
    · simp only [PyData.shownKv, List.mem_cons] at ht
      rcases ht with rfl | ht
      · rw [strOk_app, strOk_app, e, e']; decide +kernel
      · exact b t ht
    · have e2 : ((": " : String) : Str).length = 2 := rfl
      rw [PyData.shownKv, tot, len_app, len_app, e2]; omega
end
mutual
theorem shw_of : ∀ d : D, d.lf = true → d.shw = true
  | .non, _ => by simp [D.shw]
  | .bl b, _ => by simp [D.shw]
  | .int i, h => by simp [D.shw]
  | .str x, h => by simp [D.shw]
  | .lst xs, h => by rw [D.lf] at h; rw [D.shw]; exact shws_of xs h
  | .tup xs, h => by rw [D.lf] at h; rw [D.shw]; exact shws_of xs h
  | .ctup xs, h => by rw [D.lf] at h; rw [D.shw]; exact shws_of xs h
  | .dK es, h => by rw [D.lf] at h; rw [D.shw]; exact shwk_of es h
  | .dT _, h => by rw [D.lf] at h; cases h
  | .ref _, h => by rw [D.lf] at h; cases h
theorem shws_of : ∀ xs : List D, lfs xs = true → shws xs = true
  | [], _ => by simp [shws]
  | x :: xs, h => by
    rw [lfs, Bool.and_eq_true] at h
    rw [shws, shw_of x h.1, shws_of xs h.2]; rfl
theorem shwk_of : ∀ es : List (Key × D), lfk es = true → shwk es = true
  | [], _ => by simp [shwk]
  | (k, x) :: xs, h => by
    rw [lfk, lfp, Bool.and_eq_true, Bool.and_eq_true] at h
    rw [shwk, shwp, shw_of x h.1.2, shwk_of xs h.2]; rfl
end
theorem dep_key (k : Key) : (keyP k).depth = 0 := by cases k <;> simp [keyP, PyData.depth]
mutual
theorem dep_of : ∀ d : D, d.pyr.depth = d.dp
  | .non => by simp [D.pyr, D.dp, PyData.depth]
  | .bl b => by simp [D.pyr, D.dp, PyData.depth]
  | .int i => by simp [D.pyr, D.dp, PyData.depth]
  | .str x => by simp [D.pyr, D.dp, PyData.depth]
  | .lst xs => by rw [D.pyr, D.dp, PyData.depth, deps_of xs]; omega
  | .tup xs => by rw [D.pyr, D.dp, PyData.depth, deps_of xs]; omega
  | .ctup xs => by rw [D.pyr, D.dp, PyData.depth, deps_of xs]; omega
  | .dK es => by rw [D.pyr, D.dp, PyData.depth, depk_of es]; omega
  | .dT _ => by simp [D.pyr, D.dp, PyData.depth]
  | .ref _ => by simp [D.pyr, D.dp, PyData.depth]
theorem deps_of : ∀ xs : List D, PyData.depthAll (pyrs xs) = dps xs
  | [] => by simp [pyrs, PyData.depthAll, dps]
  | x :: xs => by rw [pyrs, PyData.depthAll, dps, dep_of x, deps_of xs]
theorem depk_of : ∀ es : List (Key × D), PyData.depthKv (pyrk es) = dpk es
  | [] => by simp [pyrk, PyData.depthKv, dpk]
  | (k, x) :: xs => by rw [pyrk, pyrp, PyData.depthKv, dpk, dpp, dep_of x, depk_of xs, dep_key]; omega
end
mutual
theorem pyr_py : ∀ d : D, d.plain = true → d.pyr = d.py
  | .non, _ => by rw [D.pyr, D.py]
  | .bl b, _ => by rw [D.pyr, D.py]
  | .int i, _ => by rw [D.pyr, D.py]
  | .str x, _ => by rw [D.pyr, D.py]
  | .lst xs, h => by rw [D.plain] at h; rw [D.pyr, D.py, pyrs_py xs h]
  | .tup xs, h => by rw [D.plain] at h; rw [D.pyr, D.py, pyrs_py xs h]
  | .ctup xs, h => by rw [D.plain] at h; rw [D.pyr, D.py, pyrs_py xs h]
  | .dK es, h => by rw [D.plain] at h; cases h
  | .dT _, h => by rw [D.plain] at h; cases h
  | .ref _, h => by rw [D.plain] at h; cases h
theorem pyrs_py : ∀ xs : List D, plains xs = true → pyrs xs = pys xs
  | [], _ => by rw [pyrs, pys]
  | x :: xs, h => by
    rw [plains, Bool.and_eq_true] at h
    rw [pyrs, pys, pyr_py x h.1, pyrs_py xs h.2]
end
/-- repr of what is small: a good text -/
theorem repr_small {d : D} (hq : isSeqD d = true) (hl : d.lf = true) (hd : d.dp ≤ 60) (hn : d.nd ≤ 10000) : ∃ x : Str, bltD .repr [d] = some (.str x) ∧ PyData.strOk x = true := by
  have big : (10100000 : Nat) ≤ sizeLine := by decide
  obtain ⟨a, b, c⟩ := tx_of d hl
  simp only [bltD]
  split
  · rename_i h
    refine ⟨_, rfl, ?_⟩
    rw [← pyr_py d (fit_plain h.1)]; exact b
  · refine ⟨d.pyr.shown, ?_, b⟩
    unfold reprD' okShw
    rw [hq, shw_of d hl, dep_of d, a]
    rw [if_pos]
    simp only [Bool.and_eq_true, decide_eq_true_eq]
    exact ⟨trivial, trivial, hd, trivial, by omega⟩
theorem lfs_map {α : Type} (f : α → D) : ∀ xs : List α, (∀ x ∈ xs, (f x).lf = true) → lfs (xs.map f) = true
  | [], _ => by simp [lfs]
  | x :: xs, h => by
    rw [List.map_cons, lfs, h x List.mem_cons_self, lfs_map f xs fun y hy => h y (List.mem_cons_of_mem _ hy)]; rfl
theorem nds_map {α : Type} (f : α → D) {k : Nat} : ∀ xs : List α, (∀ x ∈ xs, (f x).nd ≤ k) → nds (xs.map f) ≤ xs.length * k
  | [], _ => by simp [nds]
  | x :: xs, h => by
    have h1 := h x List.mem_cons_self
    have h2 := nds_map f xs fun y hy => h y (List.mem_cons_of_mem _ hy)
    rw [List.map_cons, nds, List.length_cons, Nat.add_mul, Nat.one_mul]; omega
theorem dps_map {α : Type} (f : α → D) {k : Nat} : ∀ xs : List α, (∀ x ∈ xs, (f x).dp ≤ k) → dps (xs.map f) ≤ k
  | [], _ => by simp [dps]
  | x :: xs, h => by
    have h1 := h x List.mem_cons_self
    have h2 := dps_map f xs fun y hy => h y (List.mem_cons_of_mem _ hy)
    rw [List.map_cons, dps]; omega
theorem lfk_map {α : Type} (f : α → Key × D) : ∀ xs : List α, (∀ x ∈ xs, txK (f x).1 = true ∧ (f x).2.lf = true) → lfk (xs.map f) = true
  | [], _ => by simp [lfk]
  | x :: xs, h => by
    rw [List.map_cons, lfk, lfp, (h x List.mem_cons_self).1, (h x List.mem_cons_self).2, lfk_map f xs fun y hy => h y (List.mem_cons_of_mem _ hy)]; rfl
theorem ndk_map {α : Type} (f : α → Key × D) {k : Nat} : ∀ xs : List α, (∀ x ∈ xs, (f x).2.nd ≤ k) → ndk (xs.map f) ≤ xs.length * (k + 1)
  | [], _ => by simp [ndk]
  | x :: xs, h => by
    have h1 := h x List.mem_cons_self
    have h2 := ndk_map f xs fun y hy => h y (List.mem_cons_of_mem _ hy)
    rw [List.map_cons, ndk, ndp, List.length_cons, Nat.add_mul, Nat.one_mul]; omega
theorem dpk_map {α : Type} (f : α → Key × D) {k : Nat} : ∀ xs : List α, (∀ x ∈ xs, (f x).2.dp ≤ k) → dpk (xs.map f) ≤ k
  | [], _ => by simp [dpk]
  | x :: xs, h => by
    have h1 := h x List.mem_cons_self
    have h2 := dpk_map f xs fun y hy => h y (List.mem_cons_of_mem _ hy)
    rw [List.map_cons, dpk, dpp]; omega
end Z

set_option Elab.async false
set_option linter.all false
set_option maxRecDepth 100000
set_option maxHeartbeats 1000000
namespace Tb
open PySem PySem.Spec PyProof.Rows L2 Z
/-! # stamps, values, versions: plain -/
abbrev St := Int × Int
def lt (a b : St) : Prop := a.1 < b.1 ∨ (a.1 = b.1 ∧ a.2 < b.2)
def le (a b : St) : Prop := ¬ lt b a
instance (a b : St) : Decidable (lt a b) := by unfold lt; infer_instance
instance (a b : St) : Decidable (le a b) := by unfold le; infer_instance
theorem lt_irrefl (a : St) : ¬ lt a a := by unfold lt; omega
theorem lt_trans {a b c : St} (h : lt a b) (g : lt b c) : lt a c := by unfold lt at *; omega
theorem lt_asymm {a b : St} (h : lt a b) : ¬ lt b a := by unfold lt at *; omega
theorem lt_tri (a b : St) : lt a b ∨ a = b ∨ lt b a := by
  unfold lt
  by_cases h1 : a.1 < b.1
  · exact .inl (.inl h1)
  · by_cases h2 : b.1 < a.1
    · exact .inr (.inr (.inl h2))
    · by_cases h3 : a.2 < b.2
      · exact .inl (.inr ⟨by omega, h3⟩)
      · by_cases h4 : b.2 < a.2
        · exact .inr (.inr (.inr ⟨by omega, h4⟩))
        · exact .inr (.inl (Prod.ext (by omega) (by omega)))
theorem le_of_lt {a b : St} (h : lt a b) : le a b := lt_asymm h
theorem le_refl (a : St) : le a a := lt_irrefl a
theorem le_trans {a b c : St} (h : le a b) (g : le b c) : le a c := by unfold le lt at *; omega
theorem le_total (a b : St) : le a b ∨ le b a := by unfold le lt; omega
theorem le_antisymm {a b : St} (h : le a b) (g : le b a) : a = b := by
  unfold le lt at *
  exact Prod.ext (by omega) (by omega)
theorem lt_of_le_of_ne {a b : St} (h : le a b) (n : a ≠ b) : lt a b := by
  rcases lt_tri a b with q | q | q
  · exact q
  · exact absurd q n
  · exact absurd q h
def mx (a b : St) : St := if lt a b then b else a
def okS (s : St) : Prop := 0 ≤ s.1 ∧ s.1 ≤ 900000 ∧ 0 ≤ s.2 ∧ s.2 ≤ 999999
theorem okS_mx {a b : St} (ha : okS a) (hb : okS b) : okS (mx a b) := by unfold mx; split <;> assumption
abbrev Vl := Option Str
abbrev Ver := St × Vl
def okV (v : Vl) : Prop := v ∈ ([none, some "x", some "y", some "z"] : List Vl)
def keys5 : List Str := ["a", "b", "c", "ca", "z"]
def Asc (l : List Ver) : Prop := l.Pairwise fun a b => lt a.1 b.1
theorem asc_uniq {α : Type} {r : α → α → Prop} (ir : ∀ a, ¬ r a a) (as : ∀ a b, r a b → ¬ r b a) : ∀ (l m : List α), l.Pairwise r → m.Pairwise r → (∀ v, v ∈ l ↔ v ∈ m) → l = m
  | [], [], _, _, _ => rfl
  | [], b :: m, _, _, h => by have := (h b).mpr List.mem_cons_self; simp at this
  | a :: l, [], _, _, h => by have := (h a).mp List.mem_cons_self; simp at this
  | a :: l, b :: m, pl, pm, h => by
    have pl' := List.pairwise_cons.mp pl
    have pm' := List.pairwise_cons.mp pm
    have e : a = b := by
      rcases List.mem_cons.mp ((h a).mp List.mem_cons_self) with q | q
      · exact q
      rcases List.mem_cons.mp ((h b).mpr List.mem_cons_self) with q' | q'
      · exact q'.symm
      exact absurd (pl'.1 b q') (as _ _ (pm'.1 a q))
    subst e
    congr 1
    refine asc_uniq ir as l m pl'.2 pm'.2 fun v => ⟨fun hv => ?_, fun hv => ?_⟩
    · rcases List.mem_cons.mp ((h v).mp (List.mem_cons_of_mem _ hv)) with q | q
      · subst q; exact absurd (pl'.1 v hv) (ir _)
      · exact q
    · rcases List.mem_cons.mp ((h v).mpr (List.mem_cons_of_mem _ hv)) with q | q
      · subst q; exact absurd (pm'.1 v hv) (ir _)
      · exact q
theorem asc_eq {l m : List Ver} (hl : Asc l) (hm : Asc m) (h : ∀ v, v ∈ l ↔ v ∈ m) : l = m := asc_uniq (fun a => lt_irrefl a.1) (fun a b => lt_asymm) l m hl hm h
def leB (a b : Ver) : Bool := !decide (lt b.1 a.1)
def srt (l : List Ver) : List Ver := l.mergeSort leB
theorem srt_asc {l : List Ver} (h : (l.map (·.1)).Nodup) : Asc (srt l) := by
  have p : (srt l).Pairwise fun a b => leB a b = true := List.pairwise_mergeSort (le := leB) (fun a b c h1 h2 => by
    simp only [leB, Bool.not_eq_true', decide_eq_false_iff_not] at *
    exact le_trans (a := a.1) (b := b.1) h1 h2) (fun a b => by
    simp only [leB, Bool.or_eq_true, Bool.not_eq_true', decide_eq_false_iff_not]
    exact le_total a.1 b.1) l
  have nd : ((srt l).map (·.1)).Nodup := ((List.mergeSort_perm l leB).map _).nodup_iff.mpr h
  have nd2 : (srt l).Pairwise fun a b => a.1 ≠ b.1 := by
    have := List.pairwise_map.mp nd
    exact this
  refine (p.and nd2).imp fun {a b} q => ?_
  simp only [leB, Bool.not_eq_true', decide_eq_false_iff_not] at q
  exact lt_of_le_of_ne q.1 q.2
theorem mem_srt {l : List Ver} {v : Ver} : v ∈ srt l ↔ v ∈ l := (List.mergeSort_perm _ _).mem_iff
def drp (l : List Ver) (s : St) : List Ver := l.filter fun e => !decide (e.1 = s)
def putL (l : List Ver) (s : St) (v : Vl) : List Ver := srt (drp l s ++ [(s, v)])
theorem asc_nodup {l : List Ver} (h : Asc l) : (l.map (·.1)).Nodup := List.pairwise_map.mpr (h.imp fun {a b} q e => by rw [e] at q; exact lt_irrefl _ q)
theorem mem_drp {l : List Ver} {s : St} {e : Ver} : e ∈ drp l s ↔ e ∈ l ∧ e.1 ≠ s := by simp [drp, List.mem_filter]
theorem asc_drp {l : List Ver} {s : St} (h : Asc l) : Asc (drp l s) := h.filter _
theorem put_asc {l : List Ver} {s : St} {v : Vl} (h : Asc l) : Asc (putL l s v) := by
  refine srt_asc ?_
  rw [List.map_append, List.nodup_append]
  refine ⟨asc_nodup (asc_drp h), by simp, fun a ha b hb => ?_⟩
  obtain ⟨e, he, rfl⟩ := List.mem_map.mp ha
  have : b = s := by simpa using hb
  rw [this]; exact (mem_drp.mp he).2
theorem mem_put {l : List Ver} {s : St} {v : Vl} {e : Ver} : e ∈ putL l s v ↔ (e ∈ l ∧ e.1 ≠ s) ∨ e = (s, v) := by
  unfold putL
  rw [mem_srt, List.mem_append, mem_drp]; simp
theorem len_put {l : List Ver} {s : St} {v : Vl} : (putL l s v).length ≤ l.length + 1 := by
  unfold putL srt
  rw [List.length_mergeSort, List.length_append]
  have : (drp l s).length ≤ l.length := List.length_filter_le _ _
  simp; exact this
/-! a dict by a list of pairs -/
section
variable {κ β : Type} [DecidableEq κ]
theorem look_none {l : List (κ × β)} {k : κ} : look l k = none ↔ k ∉ l.map (·.1) := by
  unfold look
  rw [Option.map_eq_none_iff, List.find?_eq_none]
  constructor
  · intro h z
    obtain ⟨e, h1, h2⟩ := List.mem_map.mp z
    exact h e h1 (by simp [h2])
  · intro h e he z
    exact h (List.mem_map.mpr ⟨e, he, by simpa using z⟩)
theorem look_mem {l : List (κ × β)} {k : κ} {v : β} (h : look l k = some v) : (k, v) ∈ l := by
  unfold look at h
  obtain ⟨e, h1, rfl⟩ := Option.map_eq_some_iff.mp h
  have := List.find?_some h1
  have m := List.mem_of_find?_eq_some h1
  simp at this
  rw [← this]; exact m
theorem look_of {l : List (κ × β)} (nd : (l.map (·.1)).Nodup) {k : κ} {v : β} (h : (k, v) ∈ l) : look l k = some v := by
  induction l with
  | nil => simp at h
  | cons e l ih =>
    unfold look
    rw [List.find?_cons]
    rw [List.map_cons, List.nodup_cons] at nd
    by_cases c : e.1 = k
    · simp only [c, decide_true]
      rcases List.mem_cons.mp h with q | q
      · rw [← q]; rfl
      · exact absurd (List.mem_map.mpr ⟨_, q, c.symm⟩) nd.1
    · simp only [c, decide_false]
      rcases List.mem_cons.mp h with q | q
      · exact absurd (by rw [← q]) c
      · exact ih nd.2 q
theorem dput_keys (l : List (κ × β)) (k : κ) (v : β) : (dput l k v).map (·.1) = if k ∈ l.map (·.1) then l.map (·.1) else l.map (·.1) ++ [k] := by
  unfold dput
  by_cases c : k ∈ l.map (·.1)
  · have : (look l k).isSome = true := by
      cases h : look l k with
      | none => exact absurd c (look_none.mp h)
      | some _ => rfl
    rw [if_pos this, if_pos c, List.map_map]
    refine List.map_congr_left fun e _ => ?_
    by_cases q : e.1 = k <;> simp [q]
  · have : ¬ (look l k).isSome = true := by rw [look_none.mpr c]; simp
    rw [if_neg this, if_neg c]; simp
theorem dput_nodup {l : List (κ × β)} (nd : (l.map (·.1)).Nodup) (k : κ) (v : β) : ((dput l k v).map (·.1)).Nodup := by
  rw [dput_keys]
  split
  · exact nd
  · rename_i h
    rw [List.nodup_append]
    exact ⟨nd, by simp, fun a ha b hb => by rintro rfl; simp at hb; subst hb; exact h ha⟩
theorem mem_dput {l : List (κ × β)} {k : κ} {v : β} {e : κ × β} : e ∈ dput l k v ↔ (e ∈ l ∧ e.1 ≠ k) ∨ e = (k, v) := by
  unfold dput
  by_cases c : k ∈ l.map (·.1)
  · have : (look l k).isSome = true := by
      cases h : look l k with
      | none => exact absurd c (look_none.mp h)
      | some _ => rfl
    rw [if_pos this, List.mem_map]
    constructor
    · rintro ⟨x, hx, rfl⟩
      by_cases q : x.1 = k
      · simp [q]
      · simp [q, hx]
    · rintro (⟨h1, h2⟩ | rfl)
      · exact ⟨e, h1, by simp [h2]⟩
      · obtain ⟨x, hx, hk⟩ := List.mem_map.mp c
        exact ⟨x, hx, by simp [hk]⟩
  · have : ¬ (look l k).isSome = true := by rw [look_none.mpr c]; simp
    rw [if_neg this, List.mem_append]
    constructor
    · rintro (h | h)
      · exact .inl ⟨h, fun z => c (List.mem_map.mpr ⟨e, h, z⟩)⟩
      · exact .inr (by simpa using h)
    · rintro (⟨h, _⟩ | h)
      · exact .inl h
      · exact .inr (by simp [h])
theorem look_dput (l : List (κ × β)) (k : κ) (v : β) (k' : κ) : look (dput l k v) k' = if k' = k then some v else look l k' := by
  unfold dput
  by_cases c : k ∈ l.map (·.1)
  · have : (look l k).isSome = true := by
      cases h : look l k with
      | none => exact absurd c (look_none.mp h)
      | some _ => rfl
    rw [if_pos this]
    clear this
    induction l with
    | nil => simp at c
    | cons e l ih =>
      unfold look at ih ⊢
      rw [List.map_cons, List.find?_cons, List.find?_cons]
      by_cases q : e.1 = k
      · rw [if_pos q]
        by_cases q' : k' = k
        · subst q'; simp [q]
        · have h1 : ¬ e.1 = k' := fun z => q' (z.symm.trans q)
          simp only [h1, decide_false, if_neg q']
          by_cases c' : k ∈ l.map (·.1)
          · have := ih c'; rw [if_neg q'] at this; exact this
          · congr 1
            have : l.map (fun e => if e.1 = k then (e.1, v) else e) = l := by
              conv => rhs; rw [← List.map_id l]
              refine List.map_congr_left fun x hx => ?_
              rw [if_neg fun z => c' (List.mem_map.mpr ⟨x, hx, z⟩)]; rfl
            rw [this]
      · rw [if_neg q]
        by_cases q' : e.1 = k'
        · have : ¬ k' = k := fun z => q (q'.trans z)
          simp [q', this]
        · simp only [q', decide_false]
          refine ih ?_
          rcases List.mem_cons.mp c with z | z
          · exact absurd z.symm q
          · exact z
  · have : ¬ (look l k).isSome = true := by rw [look_none.mpr c]; simp
    rw [if_neg this]
    unfold look
    rw [List.find?_append]
    by_cases q' : k' = k
    · subst q'
      have : l.find? (fun e => decide (e.1 = k')) = none := by rw [List.find?_eq_none]; intro x hx; simp; exact fun z => c (List.mem_map.mpr ⟨x, hx, z⟩)
      simp [this]
    · have : ¬ k = k' := fun z => q' z.symm
      simp only [if_neg q', List.find?_cons, this, decide_false, List.find?_nil, Option.or_none]
theorem look_ddrop (l : List (κ × β)) (k k' : κ) : look (ddrop l k) k' = if k' = k then none else look l k' := by
  unfold ddrop
  by_cases q : k' = k
  · rw [if_pos q, look_none]; subst q; simp
  · rw [if_neg q]
    induction l with
    | nil => rfl
    | cons e l ih =>
      unfold look at ih ⊢
      rw [List.filter_cons]
      by_cases c : e.1 = k
      · have h1 : ¬ e.1 = k' := fun z => q (z.symm.trans c)
        simp only [c, ne_eq, not_true_eq_false, decide_false, Bool.false_eq_true, if_false]
        rw [ih, List.find?_cons]
        simp [h1]
      · simp only [c, ne_eq, not_false_eq_true, decide_true, if_true]
        rw [List.find?_cons, List.find?_cons]
        split
        · rfl
        · exact ih
theorem len_dput (l : List (κ × β)) (k : κ) (v : β) : (dput l k v).length ≤ l.length + 1 := by
  unfold dput; split <;> simp
theorem len_ddrop (l : List (κ × β)) (k : κ) : (ddrop l k).length ≤ l.length := List.length_filter_le _ _
theorem ddrop_nodup {l : List (κ × β)} (nd : (l.map (·.1)).Nodup) (k : κ) : ((ddrop l k).map (·.1)).Nodup := (List.filter_sublist.map _).nodup nd
theorem mem_ddrop {l : List (κ × β)} {k : κ} {e : κ × β} : e ∈ ddrop l k ↔ e ∈ l ∧ e.1 ≠ k := by simp [ddrop, List.mem_filter]
end
section
variable {κ κ' β β' : Type} [DecidableEq κ] [DecidableEq κ'] {g : κ → κ'} (hg : ∀ a b, g a = g b → a = b) (f : β → β')
include hg
theorem look_map (l : List (κ × β)) (k : κ) : look (l.map fun e => (g e.1, f e.2)) (g k) = (look l k).map f := by
  induction l with
  | nil => rfl
  | cons e l ih =>
    unfold look at ih ⊢
    rw [List.map_cons, List.find?_cons, List.find?_cons]
    by_cases c : e.1 = k
    · simp [c]
    · have : ¬ g e.1 = g k := fun z => c (hg _ _ z)
      simp only [this, c, decide_false]
      exact ih
theorem dput_map (l : List (κ × β)) (k : κ) (v : β) : dput (l.map fun e => (g e.1, f e.2)) (g k) (f v) = (dput l k v).map fun e => (g e.1, f e.2) := by
  unfold dput
  rw [look_map hg f]
  cases look l k with
  | none => simp
  | some w =>
    simp only [Option.map_some, Option.isSome_some, if_true, List.map_map]
    refine List.map_congr_left fun e _ => ?_
    by_cases c : e.1 = k
    · simp [c]
    · have : ¬ g e.1 = g k := fun z => c (hg _ _ z)
      simp [c, this]
theorem ddrop_map (l : List (κ × β)) (k : κ) : ddrop (l.map fun e => (g e.1, f e.2)) (g k) = (ddrop l k).map fun e => (g e.1, f e.2) := by
  unfold ddrop
  rw [List.filter_map]
  congr 1
  refine List.filter_congr fun e _ => ?_
  by_cases c : e.1 = k
  · simp [c]
  · have : ¬ g e.1 = g k := fun z => c (hg _ _ z)
    simp [c, this]
end
/-! the program's list of versions and the law's dict -/
structure Same (l es : List Ver) : Prop where
  asc : Asc l
  nd : (es.map (·.1)).Nodup
  mem : ∀ v, v ∈ l ↔ v ∈ es
theorem Same.nil : Same [] [] := ⟨.nil, .nil, fun v => Iff.rfl⟩
theorem nodup_of_fst {α β : Type} {l : List (α × β)} (h : (l.map (·.1)).Nodup) : l.Nodup := (List.pairwise_map.mp h).imp fun {a b} q e => q (by rw [e])
theorem Same.perm {l es : List Ver} (h : Same l es) : l.Perm es := (List.perm_ext_iff_of_nodup (nodup_of_fst (asc_nodup h.asc)) (nodup_of_fst h.nd)).mpr h.mem
theorem Same.len {l es : List Ver} (h : Same l es) : l.length = es.length := h.perm.length_eq
theorem Same.put {l es : List Ver} (h : Same l es) (s : St) (v : Vl) : Same (putL l s v) (dput es s v) := ⟨put_asc h.asc, dput_nodup h.nd s v, fun e => by rw [mem_put, mem_dput, h.mem]⟩
theorem Same.look {l es : List Ver} (h : Same l es) {v : Ver} (hv : v ∈ l) : look es v.1 = some v.2 := look_of h.nd ((h.mem v).mp hv)
/-- the greatest of the chosen ones -/
theorem foldl_mx (x : St) : ∀ (l : List St) (x : St), (l.foldl mx x ∈ x :: l) ∧ ∀ y ∈ x :: l, le y (l.foldl mx x)
  | [], x => ⟨by simp, fun y hy => by simp at hy; subst hy; exact le_refl _⟩
  | a :: l, x => by
    obtain ⟨h1, h2⟩ := foldl_mx x l (mx x a)
    have m : le x (mx x a) ∧ le a (mx x a) := by
      unfold mx
      by_cases c : lt x a
      · rw [if_pos c]; exact ⟨le_of_lt c, le_refl _⟩
      · rw [if_neg c]; exact ⟨le_refl _, c⟩
    refine ⟨?_, fun y hy => ?_⟩
    · rcases List.mem_cons.mp h1 with q | q
      · rw [List.foldl_cons, q]
        unfold mx; split <;> simp
      · exact List.mem_cons_of_mem _ (List.mem_cons_of_mem _ q)
    · rcases List.mem_cons.mp hy with rfl | hy
      · exact le_trans m.1 (h2 _ List.mem_cons_self)
      · rcases List.mem_cons.mp hy with rfl | hy
        · exact le_trans m.2 (h2 _ List.mem_cons_self)
        · exact h2 y (List.mem_cons_of_mem _ hy)
theorem asc_last {l : List Ver} (h : Asc l) {v : Ver} (hv : l.getLast? = some v) : ∀ w ∈ l, le w.1 v.1 := by
  induction l with
  | nil => simp at hv
  | cons a l ih =>
    have h' := List.pairwise_cons.mp h
    cases l with
    | nil =>
      simp at hv; subst hv
      intro w hw; simp at hw; subst hw; exact le_refl _
    | cons b l =>
      rw [List.getLast?_cons_cons] at hv
      intro w hw
      rcases List.mem_cons.mp hw with rfl | hw
      · exact le_of_lt (h'.1 v (List.mem_of_getLast? hv))
      · exact ih h'.2 hv w hw
theorem Same.max {l es : List Ver} (h : Same l es) (p : St → Bool) {x : St} {xs : List St} (e : (es.map (·.1)).filter p = x :: xs) : ∃ v, (l.filter fun e => p e.1).getLast? = some v ∧ xs.foldl mx x = v.1 ∧ v ∈ l := by
  obtain ⟨h1, h2⟩ := foldl_mx x xs x
  have hne : (l.filter fun e => p e.1) ≠ [] := by
    have hx : x ∈ (es.map (·.1)).filter p := by rw [e]; exact List.mem_cons_self
    obtain ⟨hx1, hx2⟩ := List.mem_filter.mp hx
    obtain ⟨w, hw, rfl⟩ := List.mem_map.mp hx1
    intro z
    have : w ∈ l.filter fun e => p e.1 := List.mem_filter.mpr ⟨(h.mem w).mpr hw, hx2⟩
    rw [z] at this; simp at this
  obtain ⟨v, hv⟩ : ∃ v, (l.filter fun e => p e.1).getLast? = some v := ⟨_, List.getLast?_eq_some_getLast hne⟩
  have hvm := List.mem_filter.mp (List.mem_of_getLast? hv)
  refine ⟨v, hv, ?_, hvm.1⟩
  have ha : Asc (l.filter fun e => p e.1) := h.asc.filter _
  refine le_antisymm ?_ ?_
  · rw [← e] at h1
    obtain ⟨m1, m2⟩ := List.mem_filter.mp h1
    obtain ⟨w, hw, hw2⟩ := List.mem_map.mp m1
    have := asc_last ha hv w (List.mem_filter.mpr ⟨(h.mem w).mpr hw, by rw [hw2]; exact m2⟩)
    rw [hw2] at this; exact this
  · refine h2 v.1 ?_
    rw [← e]
    exact List.mem_filter.mpr ⟨List.mem_map.mpr ⟨v, (h.mem v).mp hvm.1, rfl⟩, hvm.2⟩
theorem Same.none {l es : List Ver} (h : Same l es) (p : St → Bool) (e : (es.map (·.1)).filter p = []) : l.filter (fun e => p e.1) = [] := by
  rw [List.filter_eq_nil_iff]
  intro v hv
  have := List.filter_eq_nil_iff.mp e v.1 (List.mem_map.mpr ⟨v, (h.mem v).mp hv, rfl⟩)
  exact this
theorem Same.sort {l es : List Ver} (h : Same l es) : (es.map (·.1)).mergeSort (fun a b => !decide (lt b a)) = l.map (·.1) := by
  have e1 : srt es = l := asc_eq (srt_asc h.nd) h.asc fun v => by rw [mem_srt, h.mem]
  rw [← e1]
  unfold srt
  rw [← PySem.W.sort_maps (r := leB) (fun e : Ver => e.1) (fun _ _ _ _ => rfl)]
end Tb

set_option Elab.async false
set_option linter.all false
set_option maxRecDepth 100000
set_option maxHeartbeats 1000000
namespace Tb
open PySem PySem.Spec PyProof.Rows L2 Z
/-! # the table's own defs and the law's, by names -/
def b_Table_init : Sms :=
      (.cons (.setf (.var 0) "rows" (.mref (.dnew false)))
      (.cons (.setf (.var 0) "intents" (.mref (.dnew false)))
      (.cons (.setf (.var 0) "records" (.mref (.dnew true)))
      (.cons (.setf (.var 0) "thresholds" (.mref (.dnew false)))
      (.cons (.setf (.var 0) "bound" (.cst (.int 0)))
      .nil)))))
def b_Table_versions : Sms :=
      (.cons (.ret (.blt .list (.cons (.getd (.fld (.var 0) "rows") (.var 1) (.list .nil)) .nil)))
      .nil)
def b_Table_threshold : Sms :=
      (.cons (.ret (.getd (.fld (.var 0) "thresholds") (.var 1) (.glb "ZERO" (.many [(.int 0), (.int 0)]))))
      .nil)
def b_Table_keys_in : Sms :=
      (.cons (.ret (.comp (.nm 2) (.seq (.blt .sorted (.cons (.dmrg (.fld (.var 0) "rows") (.fld (.var 0) "intents")) .nil))) (.cons (.call "has" (.cons (.var 1) (.cons (.var 2) .nil))) .nil) (.var 2)))
      .nil)
def b_Table_put_version : Sms :=
      (.cons (.asg (.nm 4) (.comp (.nm 5) (.seq (.getd (.fld (.var 0) "rows") (.var 1) (.list .nil))) (.cons (.cmp .NotEq (.idx (.var 5) (.cst (.int 0))) (.var 2)) .nil) (.var 5)))
      (.cons (.seti (.fld (.var 0) "rows") (.var 1) (.skey "_stamp_of" (.bin .Add (.var 4) (.list (.cons (.tup (.cons (.var 2) (.cons (.var 3) .nil))) .nil)))))
      .nil))
def b_Table_take_version : Sms :=
      (.cons (.asg (.nm 3) (.comp (.nm 4) (.seq (.getd (.fld (.var 0) "rows") (.var 1) (.list .nil))) (.cons (.cmp .NotEq (.idx (.var 4) (.cst (.int 0))) (.var 2)) .nil) (.var 4)))
      (.cons (.pop none (.fld (.var 0) "rows") (.cons (.var 1) (.cons (.cst .non) .nil)))
      (.cons (.ife (.cmp .Gt (.blt .len (.cons (.var 3) .nil)) (.cst (.int 0))) (.cons (.seti (.fld (.var 0) "rows") (.var 1) (.var 3))
      .nil) .nil)
      .nil)))
def b_Table_apply : Sms :=
      (.cons (.asg (.nm 2) (.idx (.var 1) (.cst (.int 0))))
      (.cons (.ife (.cmp .Eq (.var 2) (.cst (.str "version"))) (.cons (.expr (.meth (.var 0) "put_version" (.cons (.idx (.var 1) (.cst (.int 1))) (.cons (.idx (.var 1) (.cst (.int 2))) (.cons (.idx (.var 1) (.cst (.int 3))) .nil)))))
      .nil) (.cons (.ife (.cmp .Eq (.var 2) (.cst (.str "no version"))) (.cons (.expr (.meth (.var 0) "take_version" (.cons (.idx (.var 1) (.cst (.int 1))) (.cons (.idx (.var 1) (.cst (.int 2))) .nil))))
      .nil) (.cons (.ife (.cmp .Eq (.var 2) (.cst (.str "intent"))) (.cons (.pop none (.fld (.var 0) "intents") (.cons (.idx (.var 1) (.cst (.int 1))) (.cons (.cst .non) .nil)))
      (.cons (.ife (.iso true (.idx (.var 1) (.cst (.int 2))) (.cst .non)) (.cons (.seti (.fld (.var 0) "intents") (.idx (.var 1) (.cst (.int 1))) (.idx (.var 1) (.cst (.int 2))))
      .nil) .nil)
      .nil)) (.cons (.ife (.cmp .Eq (.var 2) (.cst (.str "record"))) (.cons (.seti (.fld (.var 0) "records") (.tup (.cons (.idx (.idx (.var 1) (.cst (.int 1))) (.cst (.int 5))) (.cons (.idx (.idx (.var 1) (.cst (.int 1))) (.cst (.int 1))) .nil))) (.idx (.var 1) (.cst (.int 1))))
      .nil) (.cons (.ife (.cmp .Eq (.var 2) (.cst (.str "threshold"))) (.cons (.seti (.fld (.var 0) "thresholds") (.idx (.var 1) (.cst (.int 1))) (.idx (.var 1) (.cst (.int 2))))
      .nil) (.cons (.setf (.var 0) "bound" (.idx (.var 1) (.cst (.int 1))))
      .nil))
      .nil))
      .nil))
      .nil))
      .nil))
      .nil))
def b__stamp_of : Sms :=
      (.cons (.ret (.idx (.var 0) (.cst (.int 0))))
      .nil)
def b_has : Sms :=
      (.cons (.ret (.chn .LtE .Lt (.idx (.var 0) (.cst (.int 0))) (.var 1) (.idx (.var 0) (.cst (.int 1)))))
      .nil)
def b_greatest : Sms :=
      (.cons (.asg (.nm 3) (.comp (.nm 4) (.seq (.var 0)) (.cons (.chn .LtE .LtE (.var 1) (.idx (.var 4) (.cst (.int 0))) (.var 2)) .nil) (.var 4)))
      (.cons (.ret (.ife (.cmp .Gt (.blt .len (.cons (.var 3) .nil)) (.cst (.int 0))) (.idx (.var 3) (.neg (.cst (.int 1)))) (.cst .non)))
      .nil))
def b_top_of : Sms :=
      (.cons (.ret (.blt .max (.cons (.idx (.var 0) (.glb "READ" (.one (.int 5)))) (.cons (.idx (.var 0) (.glb "LIMIT" (.one (.int 7)))) .nil))))
      .nil)
def b__law_take : Sms :=
      (.cons (.ife (.cmp .Lt (.var 1) (.cst (.int 1))) (.cons (.ret (.cst (.int 0)))
      .nil) .nil)
      (.cons (.asg (.nm 2) (.idx (.var 0) (.cst (.int 1))))
      (.cons (.asg (.nm 3) (.bin .Mod (.idx (.var 0) (.cst (.int 0))) (.blt .len (.cons (.var 2) .nil))))
      (.cons (.asg (.nm 4) (.idx (.var 2) (.var 3)))
      (.cons (.ife (.cmp .GtE (.var 4) (.cst (.int 1000000000000000000))) (.cons (.seti (.var 2) (.var 3) (.bin .FloorDiv (.var 4) (.var 1)))
      (.cons (.ret (.bin .Mod (.var 4) (.var 1)))
      .nil)) .nil)
      (.cons (.seti (.var 0) (.cst (.int 0)) (.bin .Add (.idx (.var 0) (.cst (.int 0))) (.cst (.int 1))))
      (.cons (.asg (.nm 5) (.bin .Mod (.blt .int (.cons (.bin .Add (.bin .Mult (.var 4) (.cst (.int 48271))) (.bin .Mult (.idx (.var 0) (.cst (.int 0))) (.cst (.int 69621)))) .nil)) (.cst (.int 2147483647))))
      (.cons (.asg (.nm 5) (.bin .Mod (.blt .int (.cons (.bin .Add (.bin .Mult (.var 5) (.cst (.int 16807))) (.bin .Mult (.idx (.var 0) (.cst (.int 0))) (.cst (.int 7919)))) .nil)) (.cst (.int 1000000007))))
      (.cons (.ret (.bin .Mod (.bin .FloorDiv (.var 5) (.cst (.int 7))) (.var 1)))
      .nil)))))))))
def b__law_pick : Sms :=
      (.cons (.ret (.idx (.var 1) (.call "_law_take" (.cons (.var 0) (.cons (.blt .len (.cons (.var 1) .nil)) .nil)))))
      .nil)
def b__law_stamp : Sms :=
      (.cons (.ret (.tup (.cons (.call "_law_take" (.cons (.var 0) (.cons (.cst (.int 6)) .nil))) (.cons (.call "_law_pick" (.cons (.var 0) (.cons (.list (.cons (.cst (.int 0)) (.cons (.cst (.int 0)) (.cons (.cst (.int 1)) (.cons (.cst (.int 2)) (.cons (.cst (.int 999999)) .nil)))))) .nil))) .nil))))
      .nil)
def b__law_key : Sms :=
      (.cons (.ret (.call "_law_pick" (.cons (.var 0) (.cons (.list (.cons (.cst (.str "a")) (.cons (.cst (.str "b")) (.cons (.cst (.str "c")) (.cons (.cst (.str "ca")) (.cons (.cst (.str "z")) .nil)))))) .nil))))
      .nil)
def b__law_span : Sms :=
      (.cons (.ret (.call "_law_pick" (.cons (.var 0) (.cons (.list (.cons (.tup (.cons (.cst (.str "")) (.cons (.cst (.str "~")) .nil))) (.cons (.tup (.cons (.cst (.str "a")) (.cons (.cst (.str "c")) .nil))) (.cons (.tup (.cons (.cst (.str "b")) (.cons (.cst (.str "b ")) .nil))) (.cons (.tup (.cons (.cst (.str "b")) (.cons (.cst (.str "d")) .nil))) (.cons (.tup (.cons (.cst (.str "c")) (.cons (.cst (.str "cb")) .nil))) (.cons (.tup (.cons (.cst (.str "ca")) (.cons (.cst (.str "~")) .nil))) .nil))))))) .nil))))
      .nil)
def b__law_txn : Sms :=
      (.cons (.asg (.nm 2) (.call "_law_stamp" (.cons (.var 0) .nil)))
      (.cons (.asg (.nm 3) (.blt .max (.cons (.var 2) (.cons (.call "_law_stamp" (.cons (.var 0) .nil)) .nil))))
      (.cons (.asg (.nm 4) (.call "_law_pick" (.cons (.var 0) (.cons (.list (.cons (.var 2) (.cons (.tup (.cons (.bin .Add (.idx (.var 2) (.cst (.int 0))) (.cst (.int 2))) (.cons (.cst (.int 999999)) .nil))) (.cons (.call "_law_stamp" (.cons (.var 0) .nil)) .nil)))) .nil))))
      (.cons (.asg (.nm 5) (.call "_law_take" (.cons (.var 0) (.cons (.cst (.int 3)) .nil))))
      (.cons (.ret (.tup (.cons (.cst (.str "txn")) (.cons (.var 1) (.cons (.var 5) (.cons (.bin .Add (.cst (.int 1)) (.call "_law_take" (.cons (.var 0) (.cons (.cst (.int 4)) .nil)))) (.cons (.call "_law_key" (.cons (.var 0) .nil)) (.cons (.var 2) (.cons (.var 3) (.cons (.var 4) (.cons (.call "_law_stamp" (.cons (.var 0) .nil)) .nil)))))))))))
      .nil)))))
def b__law_intent : Sms :=
      (.cons (.own 2 (.list .nil))
      (.cons (.asg (.nm 3) (.cst (.int 0)))
      (.cons (.for_ (.nm 4) (.rng (.bin .Add (.cst (.int 1)) (.call "_law_take" (.cons (.var 0) (.cons (.cst (.int 3)) .nil))))) (.cons (.asg (.nm 3) (.bin .Add (.bin .Add (.var 3) (.cst (.int 1))) (.call "_law_take" (.cons (.var 0) (.cons (.cst (.int 2)) .nil)))))
      (.cons (.app (.var 2) (.tup (.cons (.var 3) (.cons (.call "_law_pick" (.cons (.var 0) (.cons (.list (.cons (.cst .non) (.cons (.cst (.str "x")) (.cons (.cst (.str "y")) .nil)))) .nil))) .nil))))
      .nil)))
      (.cons (.asg (.nm 5) (.tup (.cons (.cst (.str "intent")) (.cons (.var 1) (.cons (.call "_law_take" (.cons (.var 0) (.cons (.cst (.int 3)) .nil))) (.cons (.bin .Add (.cst (.int 1)) (.call "_law_take" (.cons (.var 0) (.cons (.cst (.int 4)) .nil)))) (.cons (.call "_law_key" (.cons (.var 0) .nil)) .nil)))))))
      (.frz 2 (.cons (.ret (.bin .Add (.var 5) (.tup (.cons (.call "_law_stamp" (.cons (.var 0) .nil)) (.cons (.call "_law_stamp" (.cons (.var 0) .nil)) (.cons (.var 2) .nil))))))
      .nil))))))
def b__law_record : Sms :=
      (.cons (.asg (.nm 2) (.call "_law_pick" (.cons (.var 0) (.cons (.list (.cons (.cst (.str "pending")) (.cons (.cst (.str "staged")) (.cons (.cst (.str "committed")) (.cons (.cst (.str "committed")) (.cons (.cst (.str "aborted")) .nil)))))) .nil))))
      (.cons (.asg (.nm 3) (.tup (.cons (.cst (.str "record")) (.cons (.var 1) (.cons (.call "_law_take" (.cons (.var 0) (.cons (.cst (.int 3)) .nil))) (.cons (.var 2) (.cons (.bin .Add (.cst (.int 1)) (.call "_law_take" (.cons (.var 0) (.cons (.cst (.int 4)) .nil)))) (.cons (.call "_law_key" (.cons (.var 0) .nil)) .nil))))))))
      (.cons (.ret (.bin .Add (.var 3) (.tup (.cons (.call "_law_stamp" (.cons (.var 0) .nil)) (.cons (.call "_law_stamp" (.cons (.var 0) .nil)) (.cons (.list .nil) .nil))))))
      .nil)))
def b__law_table : Sms :=
      (.cons (.asg (.nm 1) (.mk "Table" .nil))
      (.cons (.par [3, 4] (.cons (.mref (.dnew false)) (.cons (.mref (.dnew false)) .nil)))
      (.cons (.for_ (.nm 2) (.seq (.list (.cons (.cst (.str "a")) (.cons (.cst (.str "b")) (.cons (.cst (.str "c")) (.cons (.cst (.str "ca")) (.cons (.cst (.str "z")) .nil))))))) (.cons (.for_ (.nm 5) (.rng (.call "_law_take" (.cons (.var 0) (.cons (.cst (.int 4)) .nil)))) (.cons (.par [7, 8] (.cons (.call "_law_stamp" (.cons (.var 0) .nil)) (.cons (.call "_law_pick" (.cons (.var 0) (.cons (.list (.cons (.cst .non) (.cons (.cst (.str "x")) (.cons (.cst (.str "y")) (.cons (.cst (.str "z")) .nil))))) .nil))) .nil)))
      (.cons (.expr (.meth (.var 1) "apply" (.cons (.tup (.cons (.cst (.str "version")) (.cons (.var 2) (.cons (.var 7) (.cons (.var 8) .nil))))) .nil)))
      (.cons (.asg (.nm 6) (.getd (.var 3) (.var 2) (.mref (.dnew true))))
      (.cons (.seti (.var 6) (.var 7) (.var 8))
      (.cons (.seti (.var 3) (.var 2) (.var 6))
      .nil))))))
      (.cons (.ife (.cmp .Eq (.call "_law_take" (.cons (.var 0) (.cons (.cst (.int 3)) .nil))) (.cst (.int 0))) (.cons (.seti (.var 4) (.var 2) (.call "_law_intent" (.cons (.var 0) (.cons (.bin .Add (.cst (.int 1)) (.call "_law_take" (.cons (.var 0) (.cons (.cst (.int 3)) .nil)))) .nil))))
      (.cons (.expr (.meth (.var 1) "apply" (.cons (.tup (.cons (.cst (.str "intent")) (.cons (.var 2) (.cons (.idx (.var 4) (.var 2)) .nil)))) .nil)))
      .nil)) .nil)
      .nil)))
      (.cons (.ret (.tup (.cons (.var 1) (.cons (.var 3) (.cons (.var 4) .nil)))))
      .nil))))
def b__law_kept : Sms :=
      (.cons (.asg (.nm 1) (.tup (.cons (.sitm (.fld (.var 0) "rows")) (.cons (.sitm (.fld (.var 0) "intents")) .nil))))
      (.cons (.ret (.blt .repr (.cons (.tup (.cons (.var 1) (.cons (.sitm (.fld (.var 0) "records")) (.cons (.sitm (.fld (.var 0) "thresholds")) (.cons (.fld (.var 0) "bound") .nil))))) .nil)))
      .nil))
def b__law_after : Sms :=
      (.cons (.ife (.cmp .Eq (.idx (.var 0) (.cst (.int 1))) (.cst (.int 999999))) (.cons (.ret (.tup (.cons (.bin .Add (.idx (.var 0) (.cst (.int 0))) (.cst (.int 1))) (.cons (.cst (.int 0)) .nil))))
      .nil) .nil)
      (.cons (.ret (.tup (.cons (.idx (.var 0) (.cst (.int 0))) (.cons (.bin .Add (.idx (.var 0) (.cst (.int 1))) (.cst (.int 1))) .nil))))
      .nil))
def Table_init0 : Sm := (.setf (.var 0) "rows" (.mref (.dnew false)))
def Table_init1 : Sm := (.setf (.var 0) "intents" (.mref (.dnew false)))
def Table_init2 : Sm := (.setf (.var 0) "records" (.mref (.dnew true)))
def Table_init3 : Sm := (.setf (.var 0) "thresholds" (.mref (.dnew false)))
def Table_init4 : Sm := (.setf (.var 0) "bound" (.cst (.int 0)))
def Table_initb : Sms := (.cons Table_init0 (.cons Table_init1 (.cons Table_init2 (.cons Table_init3 (.cons Table_init4 .nil)))))
theorem Table_init_eq : b_Table_init = Table_initb := rfl
def Table_versions0 : Sm := (.ret (.blt .list (.cons (.getd (.fld (.var 0) "rows") (.var 1) (.list .nil)) .nil)))
def Table_versionsb : Sms := (.cons Table_versions0 .nil)
theorem Table_versions_eq : b_Table_versions = Table_versionsb := rfl
def Table_threshold0 : Sm := (.ret (.getd (.fld (.var 0) "thresholds") (.var 1) (.glb "ZERO" (.many [(.int 0), (.int 0)]))))
def Table_thresholdb : Sms := (.cons Table_threshold0 .nil)
theorem Table_threshold_eq : b_Table_threshold = Table_thresholdb := rfl
def Table_keys_in0 : Sm := (.ret (.comp (.nm 2) (.seq (.blt .sorted (.cons (.dmrg (.fld (.var 0) "rows") (.fld (.var 0) "intents")) .nil))) (.cons (.call "has" (.cons (.var 1) (.cons (.var 2) .nil))) .nil) (.var 2)))
def Table_keys_inb : Sms := (.cons Table_keys_in0 .nil)
theorem Table_keys_in_eq : b_Table_keys_in = Table_keys_inb := rfl
def Table_put_version0 : Sm := (.asg (.nm 4) (.comp (.nm 5) (.seq (.getd (.fld (.var 0) "rows") (.var 1) (.list .nil))) (.cons (.cmp .NotEq (.idx (.var 5) (.cst (.int 0))) (.var 2)) .nil) (.var 5)))
def Table_put_version1 : Sm := (.seti (.fld (.var 0) "rows") (.var 1) (.skey "_stamp_of" (.bin .Add (.var 4) (.list (.cons (.tup (.cons (.var 2) (.cons (.var 3) .nil))) .nil)))))
def Table_put_versionb : Sms := (.cons Table_put_version0 (.cons Table_put_version1 .nil))
theorem Table_put_version_eq : b_Table_put_version = Table_put_versionb := rfl
def Table_take_version0 : Sm := (.asg (.nm 3) (.comp (.nm 4) (.seq (.getd (.fld (.var 0) "rows") (.var 1) (.list .nil))) (.cons (.cmp .NotEq (.idx (.var 4) (.cst (.int 0))) (.var 2)) .nil) (.var 4)))
def Table_take_version1 : Sm := (.pop none (.fld (.var 0) "rows") (.cons (.var 1) (.cons (.cst .non) .nil)))
def Table_take_version2 : Sm := (.ife (.cmp .Gt (.blt .len (.cons (.var 3) .nil)) (.cst (.int 0))) (.cons (.seti (.fld (.var 0) "rows") (.var 1) (.var 3)) .nil) .nil)
def Table_take_versionb : Sms := (.cons Table_take_version0 (.cons Table_take_version1 (.cons Table_take_version2 .nil)))
theorem Table_take_version_eq : b_Table_take_version = Table_take_versionb := rfl
def Table_apply0 : Sm := (.asg (.nm 2) (.idx (.var 1) (.cst (.int 0))))
def Table_apply1 : Sm := (.ife (.cmp .Eq (.var 2) (.cst (.str "version"))) (.cons (.expr (.meth (.var 0) "put_version" (.cons (.idx (.var 1) (.cst (.int 1))) (.cons (.idx (.var 1) (.cst (.int 2))) (.cons (.idx (.var 1) (.cst (.int 3))) .nil))))) .nil) (.cons (.ife (.cmp .Eq (.var 2) (.cst (.str "no version"))) (.cons (.expr (.meth (.var 0) "take_version" (.cons (.idx (.var 1) (.cst (.int 1))) (.cons (.idx (.var 1) (.cst (.int 2))) .nil)))) .nil) (.cons (.ife (.cmp .Eq (.var 2) (.cst (.str "intent"))) (.cons (.pop none (.fld (.var 0) "intents") (.cons (.idx (.var 1) (.cst (.int 1))) (.cons (.cst .non) .nil))) (.cons (.ife (.iso true (.idx (.var 1) (.cst (.int 2))) (.cst .non)) (.cons (.seti (.fld (.var 0) "intents") (.idx (.var 1) (.cst (.int 1))) (.idx (.var 1) (.cst (.int 2)))) .nil) .nil) .nil)) (.cons (.ife (.cmp .Eq (.var 2) (.cst (.str "record"))) (.cons (.seti (.fld (.var 0) "records") (.tup (.cons (.idx (.idx (.var 1) (.cst (.int 1))) (.cst (.int 5))) (.cons (.idx (.idx (.var 1) (.cst (.int 1))) (.cst (.int 1))) .nil))) (.idx (.var 1) (.cst (.int 1)))) .nil) (.cons (.ife (.cmp .Eq (.var 2) (.cst (.str "threshold"))) (.cons (.seti (.fld (.var 0) "thresholds") (.idx (.var 1) (.cst (.int 1))) (.idx (.var 1) (.cst (.int 2)))) .nil) (.cons (.setf (.var 0) "bound" (.idx (.var 1) (.cst (.int 1)))) .nil)) .nil)) .nil)) .nil)) .nil))
def Table_applyb : Sms := (.cons Table_apply0 (.cons Table_apply1 .nil))
theorem Table_apply_eq : b_Table_apply = Table_applyb := rfl
def stamp_of0 : Sm := (.ret (.idx (.var 0) (.cst (.int 0))))
def stamp_ofb : Sms := (.cons stamp_of0 .nil)
theorem stamp_of_eq : b__stamp_of = stamp_ofb := rfl
def has0 : Sm := (.ret (.chn .LtE .Lt (.idx (.var 0) (.cst (.int 0))) (.var 1) (.idx (.var 0) (.cst (.int 1)))))
def hasb : Sms := (.cons has0 .nil)
theorem has_eq : b_has = hasb := rfl
def greatest0 : Sm := (.asg (.nm 3) (.comp (.nm 4) (.seq (.var 0)) (.cons (.chn .LtE .LtE (.var 1) (.idx (.var 4) (.cst (.int 0))) (.var 2)) .nil) (.var 4)))
def greatest1 : Sm := (.ret (.ife (.cmp .Gt (.blt .len (.cons (.var 3) .nil)) (.cst (.int 0))) (.idx (.var 3) (.neg (.cst (.int 1)))) (.cst .non)))
def greatestb : Sms := (.cons greatest0 (.cons greatest1 .nil))
theorem greatest_eq : b_greatest = greatestb := rfl
def top_of0 : Sm := (.ret (.blt .max (.cons (.idx (.var 0) (.glb "READ" (.one (.int 5)))) (.cons (.idx (.var 0) (.glb "LIMIT" (.one (.int 7)))) .nil))))
def top_ofb : Sms := (.cons top_of0 .nil)
theorem top_of_eq : b_top_of = top_ofb := rfl
def law_take0 : Sm := (.ife (.cmp .Lt (.var 1) (.cst (.int 1))) (.cons (.ret (.cst (.int 0))) .nil) .nil)
def law_take1 : Sm := (.asg (.nm 2) (.idx (.var 0) (.cst (.int 1))))
def law_take2 : Sm := (.asg (.nm 3) (.bin .Mod (.idx (.var 0) (.cst (.int 0))) (.blt .len (.cons (.var 2) .nil))))
def law_take3 : Sm := (.asg (.nm 4) (.idx (.var 2) (.var 3)))
def law_take4 : Sm := (.ife (.cmp .GtE (.var 4) (.cst (.int 1000000000000000000))) (.cons (.seti (.var 2) (.var 3) (.bin .FloorDiv (.var 4) (.var 1))) (.cons (.ret (.bin .Mod (.var 4) (.var 1))) .nil)) .nil)
def law_take5 : Sm := (.seti (.var 0) (.cst (.int 0)) (.bin .Add (.idx (.var 0) (.cst (.int 0))) (.cst (.int 1))))
def law_take6 : Sm := (.asg (.nm 5) (.bin .Mod (.blt .int (.cons (.bin .Add (.bin .Mult (.var 4) (.cst (.int 48271))) (.bin .Mult (.idx (.var 0) (.cst (.int 0))) (.cst (.int 69621)))) .nil)) (.cst (.int 2147483647))))
def law_take7 : Sm := (.asg (.nm 5) (.bin .Mod (.blt .int (.cons (.bin .Add (.bin .Mult (.var 5) (.cst (.int 16807))) (.bin .Mult (.idx (.var 0) (.cst (.int 0))) (.cst (.int 7919)))) .nil)) (.cst (.int 1000000007))))
def law_take8 : Sm := (.ret (.bin .Mod (.bin .FloorDiv (.var 5) (.cst (.int 7))) (.var 1)))
def law_takeb : Sms := (.cons law_take0 (.cons law_take1 (.cons law_take2 (.cons law_take3 (.cons law_take4 (.cons law_take5 (.cons law_take6 (.cons law_take7 (.cons law_take8 .nil)))))))))
theorem law_take_eq : b__law_take = law_takeb := rfl
def law_pick0 : Sm := (.ret (.idx (.var 1) (.call "_law_take" (.cons (.var 0) (.cons (.blt .len (.cons (.var 1) .nil)) .nil)))))
def law_pickb : Sms := (.cons law_pick0 .nil)
theorem law_pick_eq : b__law_pick = law_pickb := rfl
def law_stamp0 : Sm := (.ret (.tup (.cons (.call "_law_take" (.cons (.var 0) (.cons (.cst (.int 6)) .nil))) (.cons (.call "_law_pick" (.cons (.var 0) (.cons (.list (.cons (.cst (.int 0)) (.cons (.cst (.int 0)) (.cons (.cst (.int 1)) (.cons (.cst (.int 2)) (.cons (.cst (.int 999999)) .nil)))))) .nil))) .nil))))
def law_stampb : Sms := (.cons law_stamp0 .nil)
theorem law_stamp_eq : b__law_stamp = law_stampb := rfl
def law_key0 : Sm := (.ret (.call "_law_pick" (.cons (.var 0) (.cons (.list (.cons (.cst (.str "a")) (.cons (.cst (.str "b")) (.cons (.cst (.str "c")) (.cons (.cst (.str "ca")) (.cons (.cst (.str "z")) .nil)))))) .nil))))
def law_keyb : Sms := (.cons law_key0 .nil)
theorem law_key_eq : b__law_key = law_keyb := rfl
def law_span0 : Sm := (.ret (.call "_law_pick" (.cons (.var 0) (.cons (.list (.cons (.tup (.cons (.cst (.str "")) (.cons (.cst (.str "~")) .nil))) (.cons (.tup (.cons (.cst (.str "a")) (.cons (.cst (.str "c")) .nil))) (.cons (.tup (.cons (.cst (.str "b")) (.cons (.cst (.str "b ")) .nil))) (.cons (.tup (.cons (.cst (.str "b")) (.cons (.cst (.str "d")) .nil))) (.cons (.tup (.cons (.cst (.str "c")) (.cons (.cst (.str "cb")) .nil))) (.cons (.tup (.cons (.cst (.str "ca")) (.cons (.cst (.str "~")) .nil))) .nil))))))) .nil))))
def law_spanb : Sms := (.cons law_span0 .nil)
theorem law_span_eq : b__law_span = law_spanb := rfl
def law_txn0 : Sm := (.asg (.nm 2) (.call "_law_stamp" (.cons (.var 0) .nil)))
def law_txn1 : Sm := (.asg (.nm 3) (.blt .max (.cons (.var 2) (.cons (.call "_law_stamp" (.cons (.var 0) .nil)) .nil))))
def law_txn2 : Sm := (.asg (.nm 4) (.call "_law_pick" (.cons (.var 0) (.cons (.list (.cons (.var 2) (.cons (.tup (.cons (.bin .Add (.idx (.var 2) (.cst (.int 0))) (.cst (.int 2))) (.cons (.cst (.int 999999)) .nil))) (.cons (.call "_law_stamp" (.cons (.var 0) .nil)) .nil)))) .nil))))
def law_txn3 : Sm := (.asg (.nm 5) (.call "_law_take" (.cons (.var 0) (.cons (.cst (.int 3)) .nil))))
def law_txn4 : Sm := (.ret (.tup (.cons (.cst (.str "txn")) (.cons (.var 1) (.cons (.var 5) (.cons (.bin .Add (.cst (.int 1)) (.call "_law_take" (.cons (.var 0) (.cons (.cst (.int 4)) .nil)))) (.cons (.call "_law_key" (.cons (.var 0) .nil)) (.cons (.var 2) (.cons (.var 3) (.cons (.var 4) (.cons (.call "_law_stamp" (.cons (.var 0) .nil)) .nil)))))))))))
def law_txnb : Sms := (.cons law_txn0 (.cons law_txn1 (.cons law_txn2 (.cons law_txn3 (.cons law_txn4 .nil)))))
theorem law_txn_eq : b__law_txn = law_txnb := rfl
def law_intent0 : Sm := (.own 2 (.list .nil))
def law_intent1 : Sm := (.asg (.nm 3) (.cst (.int 0)))
def law_intent2b0 : Sm := (.asg (.nm 3) (.bin .Add (.bin .Add (.var 3) (.cst (.int 1))) (.call "_law_take" (.cons (.var 0) (.cons (.cst (.int 2)) .nil)))))
def law_intent2b1 : Sm := (.app (.var 2) (.tup (.cons (.var 3) (.cons (.call "_law_pick" (.cons (.var 0) (.cons (.list (.cons (.cst .non) (.cons (.cst (.str "x")) (.cons (.cst (.str "y")) .nil)))) .nil))) .nil))))
def law_intent2b : Sms := (.cons law_intent2b0 (.cons law_intent2b1 .nil))
def law_intent2 : Sm := (.for_ (.nm 4) (.rng (.bin .Add (.cst (.int 1)) (.call "_law_take" (.cons (.var 0) (.cons (.cst (.int 3)) .nil))))) law_intent2b)
def law_intent3 : Sm := (.asg (.nm 5) (.tup (.cons (.cst (.str "intent")) (.cons (.var 1) (.cons (.call "_law_take" (.cons (.var 0) (.cons (.cst (.int 3)) .nil))) (.cons (.bin .Add (.cst (.int 1)) (.call "_law_take" (.cons (.var 0) (.cons (.cst (.int 4)) .nil)))) (.cons (.call "_law_key" (.cons (.var 0) .nil)) .nil)))))))
def law_intent4 : Sm := (.ret (.bin .Add (.var 5) (.tup (.cons (.call "_law_stamp" (.cons (.var 0) .nil)) (.cons (.call "_law_stamp" (.cons (.var 0) .nil)) (.cons (.var 2) .nil))))))
def law_intentb : Sms := (.cons law_intent0 (.cons law_intent1 (.cons law_intent2 (.cons law_intent3 (.frz 2 (.cons law_intent4 .nil))))))
theorem law_intent_eq : b__law_intent = law_intentb := rfl
def law_record0 : Sm := (.asg (.nm 2) (.call "_law_pick" (.cons (.var 0) (.cons (.list (.cons (.cst (.str "pending")) (.cons (.cst (.str "staged")) (.cons (.cst (.str "committed")) (.cons (.cst (.str "committed")) (.cons (.cst (.str "aborted")) .nil)))))) .nil))))
def law_record1 : Sm := (.asg (.nm 3) (.tup (.cons (.cst (.str "record")) (.cons (.var 1) (.cons (.call "_law_take" (.cons (.var 0) (.cons (.cst (.int 3)) .nil))) (.cons (.var 2) (.cons (.bin .Add (.cst (.int 1)) (.call "_law_take" (.cons (.var 0) (.cons (.cst (.int 4)) .nil)))) (.cons (.call "_law_key" (.cons (.var 0) .nil)) .nil))))))))
def law_record2 : Sm := (.ret (.bin .Add (.var 3) (.tup (.cons (.call "_law_stamp" (.cons (.var 0) .nil)) (.cons (.call "_law_stamp" (.cons (.var 0) .nil)) (.cons (.list .nil) .nil))))))
def law_recordb : Sms := (.cons law_record0 (.cons law_record1 (.cons law_record2 .nil)))
theorem law_record_eq : b__law_record = law_recordb := rfl
def law_table0 : Sm := (.asg (.nm 1) (.mk "Table" .nil))
def law_table1 : Sm := (.par [3, 4] (.cons (.mref (.dnew false)) (.cons (.mref (.dnew false)) .nil)))
def law_table2b0b0 : Sm := (.par [7, 8] (.cons (.call "_law_stamp" (.cons (.var 0) .nil)) (.cons (.call "_law_pick" (.cons (.var 0) (.cons (.list (.cons (.cst .non) (.cons (.cst (.str "x")) (.cons (.cst (.str "y")) (.cons (.cst (.str "z")) .nil))))) .nil))) .nil)))
def law_table2b0b1 : Sm := (.expr (.meth (.var 1) "apply" (.cons (.tup (.cons (.cst (.str "version")) (.cons (.var 2) (.cons (.var 7) (.cons (.var 8) .nil))))) .nil)))
def law_table2b0b2 : Sm := (.asg (.nm 6) (.getd (.var 3) (.var 2) (.mref (.dnew true))))
def law_table2b0b3 : Sm := (.seti (.var 6) (.var 7) (.var 8))
def law_table2b0b4 : Sm := (.seti (.var 3) (.var 2) (.var 6))
def law_table2b0b : Sms := (.cons law_table2b0b0 (.cons law_table2b0b1 (.cons law_table2b0b2 (.cons law_table2b0b3 (.cons law_table2b0b4 .nil)))))
def law_table2b0 : Sm := (.for_ (.nm 5) (.rng (.call "_law_take" (.cons (.var 0) (.cons (.cst (.int 4)) .nil)))) law_table2b0b)
def law_table2b1 : Sm := (.ife (.cmp .Eq (.call "_law_take" (.cons (.var 0) (.cons (.cst (.int 3)) .nil))) (.cst (.int 0))) (.cons (.seti (.var 4) (.var 2) (.call "_law_intent" (.cons (.var 0) (.cons (.bin .Add (.cst (.int 1)) (.call "_law_take" (.cons (.var 0) (.cons (.cst (.int 3)) .nil)))) .nil)))) (.cons (.expr (.meth (.var 1) "apply" (.cons (.tup (.cons (.cst (.str "intent")) (.cons (.var 2) (.cons (.idx (.var 4) (.var 2)) .nil)))) .nil))) .nil)) .nil)
def law_table2b : Sms := (.cons law_table2b0 (.cons law_table2b1 .nil))
def law_table2 : Sm := (.for_ (.nm 2) (.seq (.list (.cons (.cst (.str "a")) (.cons (.cst (.str "b")) (.cons (.cst (.str "c")) (.cons (.cst (.str "ca")) (.cons (.cst (.str "z")) .nil))))))) law_table2b)
def law_table3 : Sm := (.ret (.tup (.cons (.var 1) (.cons (.var 3) (.cons (.var 4) .nil)))))
def law_tableb : Sms := (.cons law_table0 (.cons law_table1 (.cons law_table2 (.cons law_table3 .nil))))
theorem law_table_eq : b__law_table = law_tableb := rfl
def law_kept0 : Sm := (.asg (.nm 1) (.tup (.cons (.sitm (.fld (.var 0) "rows")) (.cons (.sitm (.fld (.var 0) "intents")) .nil))))
def law_kept1 : Sm := (.ret (.blt .repr (.cons (.tup (.cons (.var 1) (.cons (.sitm (.fld (.var 0) "records")) (.cons (.sitm (.fld (.var 0) "thresholds")) (.cons (.fld (.var 0) "bound") .nil))))) .nil)))
def law_keptb : Sms := (.cons law_kept0 (.cons law_kept1 .nil))
theorem law_kept_eq : b__law_kept = law_keptb := rfl
def law_after0 : Sm := (.ife (.cmp .Eq (.idx (.var 0) (.cst (.int 1))) (.cst (.int 999999))) (.cons (.ret (.tup (.cons (.bin .Add (.idx (.var 0) (.cst (.int 0))) (.cst (.int 1))) (.cons (.cst (.int 0)) .nil)))) .nil) .nil)
def law_after1 : Sm := (.ret (.tup (.cons (.idx (.var 0) (.cst (.int 0))) (.cons (.bin .Add (.idx (.var 0) (.cst (.int 1))) (.cst (.int 1))) .nil))))
def law_afterb : Sms := (.cons law_after0 (.cons law_after1 .nil))
theorem law_after_eq : b__law_after = law_afterb := rfl

structure TabT (T : Prog) : Prop where
  a_Table_init : T.defs.lookup (("Table", some "__init__") : Str × Option Str) = some (⟨1, 1, b_Table_init⟩ : Fd)
  a_Table_versions : T.defs.lookup (("Table", some "versions") : Str × Option Str) = some (⟨2, 2, b_Table_versions⟩ : Fd)
  a_Table_put_version : T.defs.lookup (("Table", some "put_version") : Str × Option Str) = some (⟨4, 6, b_Table_put_version⟩ : Fd)
  a_Table_apply : T.defs.lookup (("Table", some "apply") : Str × Option Str) = some (⟨2, 3, b_Table_apply⟩ : Fd)
  a__stamp_of : T.defs.lookup (("_stamp_of", none) : Str × Option Str) = some (⟨1, 1, b__stamp_of⟩ : Fd)
  a__law_take : T.defs.lookup (("_law_take", none) : Str × Option Str) = some (⟨2, 6, b__law_take⟩ : Fd)
  a__law_pick : T.defs.lookup (("_law_pick", none) : Str × Option Str) = some (⟨2, 2, b__law_pick⟩ : Fd)
  a__law_stamp : T.defs.lookup (("_law_stamp", none) : Str × Option Str) = some (⟨1, 1, b__law_stamp⟩ : Fd)
  a__law_key : T.defs.lookup (("_law_key", none) : Str × Option Str) = some (⟨1, 1, b__law_key⟩ : Fd)
  a__law_span : T.defs.lookup (("_law_span", none) : Str × Option Str) = some (⟨1, 1, b__law_span⟩ : Fd)
  a__law_txn : T.defs.lookup (("_law_txn", none) : Str × Option Str) = some (⟨2, 6, b__law_txn⟩ : Fd)
  a__law_intent : T.defs.lookup (("_law_intent", none) : Str × Option Str) = some (⟨2, 6, b__law_intent⟩ : Fd)
  a__law_record : T.defs.lookup (("_law_record", none) : Str × Option Str) = some (⟨2, 4, b__law_record⟩ : Fd)
  a__law_table : T.defs.lookup (("_law_table", none) : Str × Option Str) = some (⟨1, 9, b__law_table⟩ : Fd)
  a__law_kept : T.defs.lookup (("_law_kept", none) : Str × Option Str) = some (⟨1, 2, b__law_kept⟩ : Fd)
  a__law_after : T.defs.lookup (("_law_after", none) : Str × Option Str) = some (⟨1, 1, b__law_after⟩ : Fd)
  fld : ∀ f ∈ (["rows", "intents", "records", "thresholds", "bound"] : List Str), T.fld "Table" f = true
end Tb

set_option Elab.async false
set_option linter.all false
set_option maxRecDepth 100000
set_option maxHeartbeats 1000000
namespace Tb
open PySem PySem.Spec PyProof.Rows L2 Z
/-! # as data -/
def sD (s : St) : D := .tup [.int s.1, .int s.2]
def sK (s : St) : List Key := [.inl s.1, .inl s.2]
def vD : Vl → D
  | none => .non
  | some x => .str x
theorem vD_none : vD none = .non := rfl
theorem vD_some (x : Str) : vD (some x) = .str x := rfl
def eD (e : Ver) : D := .tup [sD e.1, vD e.2]
structure In where
  num : Int
  ep : Int
  pr : Int
  an : Str
  st : St
  bt : St
  rows : List (Int × Vl)
def rD (r : Int × Vl) : D := .tup [.int r.1, vD r.2]
def inD (i : In) : D := .tup [.str "intent", .int i.num, .int i.ep, .int i.pr, .str i.an, sD i.st, sD i.bt, .lst (i.rows.map rD)]
structure Tx where
  num : Int
  ep : Int
  pr : Int
  an : Str
  rd : St
  wr : St
  lim : St
  bt : St
def txD (t : Tx) : D := .tup [.str "txn", .int t.num, .int t.ep, .int t.pr, .str t.an, sD t.rd, sD t.wr, sD t.lim, sD t.bt]
theorem sK_inj (a b : St) (h : sK a = sK b) : a = b := by
  unfold sK at h
  simp at h
  exact Prod.ext h.1 h.2
theorem inr_inj (a b : Str) (h : (Sum.inr a : Key) = Sum.inr b) : a = b := Sum.inr.inj h
theorem keyT_sD (s : St) : keyT (sD s) = some (sK s) := rfl
theorem dT1_sK (s : St) : dT1 (sK s) = sD s := rfl
theorem okV_str {v : Vl} (h : okV v) : ∀ x, v = some x → PyData.strOk x = true ∧ txS x = true := by
  have : ∀ v ∈ ([none, some "x", some "y", some "z"] : List Vl), ∀ x, v = some x → PyData.strOk x = true ∧ txS x = true := by
    intro v hv x e
    subst e
    simp at hv
    rcases hv with rfl | rfl | rfl <;> decide +kernel
  exact this v h
theorem key_ok {k : Str} (h : k ∈ keys5) : PyData.strOk k = true ∧ txS k = true := by
  have : ∀ k ∈ keys5, PyData.strOk k = true ∧ txS k = true := by decide +kernel
  exact this k h
@[simp] theorem cont_sD {ρ : Env'} {S : Store} {s : St} : cont ρ S (.val (sD s)) = some (sD s) := rfl
@[simp] theorem cont_vD {ρ : Env'} {S : Store} {v : Vl} : cont ρ S (.val (vD v)) = some (vD v) := by cases v <;> rfl
@[simp] theorem cont_eD {ρ : Env'} {S : Store} {e : Ver} : cont ρ S (.val (eD e)) = some (eD e) := rfl
@[simp] theorem cont_inD {ρ : Env'} {S : Store} {e : In} : cont ρ S (.val (inD e)) = some (inD e) := rfl
@[simp] theorem cont_txD {ρ : Env'} {S : Store} {e : Tx} : cont ρ S (.val (txD e)) = some (txD e) := rfl
@[simp] theorem cont_rD {ρ : Env'} {S : Store} {e : Int × Vl} : cont ρ S (.val (rD e)) = some (rD e) := rfl
@[simp] theorem idx_sD0 {s : St} : idxD (sD s) (.int 0) = some (.int s.1) := rfl
@[simp] theorem idx_sD1 {s : St} : idxD (sD s) (.int 1) = some (.int s.2) := rfl
@[simp] theorem idx_eD0 {e : Ver} : idxD (eD e) (.int 0) = some (sD e.1) := rfl
@[simp] theorem idx_eD1 {e : Ver} : idxD (eD e) (.int 1) = some (vD e.2) := rfl
@[simp] theorem idx_rD0 {e : Int × Vl} : idxD (rD e) (.int 0) = some (.int e.1) := rfl
@[simp] theorem idx_rD1 {e : Int × Vl} : idxD (rD e) (.int 1) = some (vD e.2) := rfl
@[simp] theorem idx_in1 {e : In} : idxD (inD e) (.int 1) = some (.int e.num) := rfl
@[simp] theorem idx_in2 {e : In} : idxD (inD e) (.int 2) = some (.int e.ep) := rfl
@[simp] theorem idx_in5 {e : In} : idxD (inD e) (.int 5) = some (sD e.st) := rfl
@[simp] theorem idx_in7 {e : In} : idxD (inD e) (.int 7) = some (.lst (e.rows.map rD)) := rfl
@[simp] theorem idx_tx1 {e : Tx} : idxD (txD e) (.int 1) = some (.int e.num) := rfl
@[simp] theorem idx_tx2 {e : Tx} : idxD (txD e) (.int 2) = some (.int e.ep) := rfl
@[simp] theorem idx_tx3 {e : Tx} : idxD (txD e) (.int 3) = some (.int e.pr) := rfl
@[simp] theorem idx_tx4 {e : Tx} : idxD (txD e) (.int 4) = some (.str e.an) := rfl
@[simp] theorem idx_tx5 {e : Tx} : idxD (txD e) (.int 5) = some (sD e.rd) := rfl
@[simp] theorem idx_tx6 {e : Tx} : idxD (txD e) (.int 6) = some (sD e.wr) := rfl
@[simp] theorem idx_tx7 {e : Tx} : idxD (txD e) (.int 7) = some (sD e.lim) := rfl
@[simp] theorem idx_tx8 {e : Tx} : idxD (txD e) (.int 8) = some (sD e.bt) := rfl
theorem c_lt (a b : St) : cmpD .Lt (sD a) (sD b) = some (decide (lt a b)) := lt_st a.1 a.2 b.1 b.2
theorem c_gt (a b : St) : cmpD .Gt (sD a) (sD b) = some (decide (lt b a)) := gt_st a.1 a.2 b.1 b.2
theorem c_le (a b : St) : cmpD .LtE (sD a) (sD b) = some (decide (le a b)) := by
  have h := le_st a.1 a.2 b.1 b.2
  have e : decide (le a b) = !decide (b.1 < a.1 ∨ (b.1 = a.1 ∧ b.2 < a.2)) := by
    rw [← decide_not]
    exact decide_eq_decide.mpr Iff.rfl
  rw [e]; exact h
theorem st_ext (a b : St) : (a.1 = b.1 ∧ a.2 = b.2) ↔ a = b := ⟨fun h => Prod.ext h.1 h.2, fun h => by rw [h]; exact ⟨rfl, rfl⟩⟩
theorem c_ne (a b : St) : cmpD .NotEq (sD a) (sD b) = some (!decide (a = b)) := by
  have h := ne_st a.1 a.2 b.1 b.2
  rw [show decide (a = b) = decide (a.1 = b.1 ∧ a.2 = b.2) from decide_eq_decide.mpr (st_ext a b).symm]
  exact h
theorem c_eq (a b : St) : cmpD .Eq (sD a) (sD b) = some (decide (a = b)) := by
  have h := eq_st a.1 a.2 b.1 b.2
  rw [show decide (a = b) = decide (a.1 = b.1 ∧ a.2 = b.2) from decide_eq_decide.mpr (st_ext a b).symm]
  exact h
theorem ltD_sD (a b : St) : ltD (sD a) (sD b) = decide (lt a b) := stlt a.1 a.2 b.1 b.2
theorem max2 (a b : St) : bltD .max [sD a, sD b] = some (sD (mx a b)) := by
  have h := max_st a.1 a.2 b.1 b.2
  unfold mx
  by_cases c : lt a b
  · rw [if_pos c]; rw [if_pos (show a.1 < b.1 ∨ (a.1 = b.1 ∧ a.2 < b.2) from c)] at h; exact h
  · rw [if_neg c]; rw [if_neg (show ¬ (a.1 < b.1 ∨ (a.1 = b.1 ∧ a.2 < b.2)) from c)] at h; exact h
/-- what compares as a stamp: a tuple, or one of the top -/
structure Lk (d : D) (s : St) : Prop where
  is : d = sD s ∨ d = .ctup [.int s.1, .int s.2]
theorem Lk.self (s : St) : Lk (sD s) s := ⟨.inl rfl⟩
theorem Lk.top (a b : Int) : Lk (.ctup [.int a, .int b]) (a, b) := ⟨.inr rfl⟩
theorem Lk.c {d : D} {s : St} (h : Lk d s) {ρ : Env'} {S : Store} : cont ρ S (.val d) = some d := by
  rcases h.is with rfl | rfl <;> rfl
theorem ctup_le (a b : St) : cmpD .LtE (sD a) (.ctup [.int b.1, .int b.2]) = cmpD .LtE (sD a) (sD b) := by
  have py : (D.ctup [.int b.1, .int b.2]).py = (sD b).py := rfl
  have f : (D.ctup [.int b.1, .int b.2]).fit = (sD b).fit := rfl
  have l : likeD (sD a) (.ctup [.int b.1, .int b.2]) = likeD (sD a) (sD b) := by unfold likeD; rw [py]
  have t : ltD (.ctup [.int b.1, .int b.2]) (sD a) = ltD (sD b) (sD a) := by unfold ltD; rw [py]
  have o : okLt (sD a) (.ctup [.int b.1, .int b.2]) = okLt (sD a) (sD b) := by unfold okLt; rw [f, l]
  show (if okLt (sD a) (.ctup [.int b.1, .int b.2]) = true then some (!ltD (.ctup [.int b.1, .int b.2]) (sD a)) else none) = if okLt (sD a) (sD b) = true then some (!ltD (sD b) (sD a)) else none
  rw [o, t]
theorem Lk.le {d : D} {s : St} (h : Lk d s) (a : St) : cmpD .LtE (sD a) d = some (decide (le a s)) := by
  rcases h.is with rfl | rfl
  · exact c_le a s
  · rw [ctup_le]; exact c_le a s
/-- plain and shallow -/
def Sh (n : Nat) (d : D) : Prop := d.plain = true ∧ d.dep ≤ n
theorem Sh.fit {n : Nat} {d : D} (h : Sh n d) (hn : n ≤ 60) : d.fit = true := by
  unfold D.fit
  rw [h.1]
  simp; exact Nat.le_trans h.2 hn
theorem Sh.mono {n m : Nat} {d : D} (h : Sh n d) (hn : n ≤ m) : Sh m d := ⟨h.1, Nat.le_trans h.2 hn⟩
theorem sh_int (i : Int) : Sh 0 (.int i) := ⟨rfl, by simp [D.dep, D.py, PyData.depth]⟩
theorem sh_non : Sh 0 .non := ⟨rfl, by simp [D.dep, D.py, PyData.depth]⟩
theorem sh_str {x : Str} (h : PyData.strOk x = true) : Sh 0 (.str x) := ⟨h, by simp [D.dep, D.py, PyData.depth]⟩
theorem sh_all {n : Nat} : ∀ {xs : List D}, (∀ x ∈ xs, Sh n x) → plains xs = true ∧ PyData.depthAll (pys xs) ≤ n
  | [], _ => ⟨rfl, by simp [pys, PyData.depthAll]⟩
  | x :: xs, h => by
    obtain ⟨h1, h2⟩ := sh_all fun y hy => h y (List.mem_cons_of_mem _ hy)
    obtain ⟨g1, g2⟩ := h x List.mem_cons_self
    unfold D.dep at g2
    refine ⟨by rw [plains, g1, h1]; rfl, ?_⟩
    rw [pys, PyData.depthAll]
    exact Nat.max_le.mpr ⟨g2, h2⟩
theorem sh_tup {n : Nat} {xs : List D} (h : ∀ x ∈ xs, Sh n x) : Sh (n + 1) (.tup xs) := by
  obtain ⟨h1, h2⟩ := sh_all h
  refine ⟨h1, ?_⟩
  simp only [D.dep, D.py, PyData.depth]; omega
theorem sh_lst {n : Nat} {xs : List D} (h : ∀ x ∈ xs, Sh n x) : Sh (n + 1) (.lst xs) := by
  obtain ⟨h1, h2⟩ := sh_all h
  refine ⟨h1, ?_⟩
  simp only [D.dep, D.py, PyData.depth]; omega
theorem sh_map {α : Type} {n : Nat} {f : α → D} {xs : List α} (h : ∀ x ∈ xs, Sh n (f x)) : Sh (n + 1) (.lst (xs.map f)) := sh_lst fun x hx => by
  obtain ⟨y, hy, rfl⟩ := List.mem_map.mp hx
  exact h y hy
theorem sh_sD (s : St) : Sh 1 (sD s) := sh_tup fun x hx => by
  simp at hx
  rcases hx with rfl | rfl <;> exact sh_int _
theorem sh_vD {v : Vl} (h : okV v) : Sh 0 (vD v) := by
  cases v with
  | none => exact sh_non
  | some x => exact sh_str (okV_str h x rfl).1
theorem sh_eD {e : Ver} (h : okV e.2) : Sh 2 (eD e) := sh_tup fun x hx => by
  simp at hx
  rcases hx with rfl | rfl
  · exact sh_sD _
  · exact (sh_vD h).mono (by omega)
theorem sh_rD {e : Int × Vl} (h : okV e.2) : Sh 1 (rD e) := sh_tup fun x hx => by
  simp at hx
  rcases hx with rfl | rfl
  · exact sh_int _
  · exact sh_vD h
def okI (i : Int) : Prop := 0 ≤ i ∧ i ≤ 1000
structure InOk (i : In) : Prop where
  num : okI i.num
  ep : okI i.ep
  pr : okI i.pr
  an : i.an ∈ keys5
  st : okS i.st
  bt : okS i.bt
  ne : i.rows ≠ []
  len : i.rows.length ≤ 60
  rows : ∀ r ∈ i.rows, okI r.1 ∧ okV r.2
structure TxOk (t : Tx) : Prop where
  num : okI t.num
  ep : okI t.ep
  pr : okI t.pr
  an : t.an ∈ keys5
  rd : okS t.rd
  wr : okS t.wr
  lim : okS t.lim
  bt : okS t.bt
theorem sh_inD {i : In} (h : InOk i) : Sh 3 (inD i) := sh_tup fun x hx => by
  simp at hx
  rcases hx with rfl | rfl | rfl | rfl | rfl | rfl | rfl | rfl
  · exact (sh_str (by decide +kernel)).mono (by omega)
  · exact (sh_int _).mono (by omega)
  · exact (sh_int _).mono (by omega)
  · exact (sh_int _).mono (by omega)
  · exact (sh_str (key_ok h.an).1).mono (by omega)
  · exact (sh_sD _).mono (by omega)
  · exact (sh_sD _).mono (by omega)
  · exact sh_map fun r hr => sh_rD (h.rows r hr).2
theorem sh_txD {i : Tx} (h : TxOk i) : Sh 2 (txD i) := sh_tup fun x hx => by
  simp at hx
  rcases hx with rfl | rfl | rfl | rfl | rfl | rfl | rfl | rfl | rfl
  · exact (sh_str (by decide +kernel)).mono (by omega)
  · exact (sh_int _).mono (by omega)
  · exact (sh_int _).mono (by omega)
  · exact (sh_int _).mono (by omega)
  · exact (sh_str (key_ok h.an).1).mono (by omega)
  · exact (sh_sD _)
  · exact (sh_sD _)
  · exact (sh_sD _)
  · exact (sh_sD _)
theorem like_sD (a b : St) : likeD (sD a) (sD b) = true := like_st a.1 a.2 b.1 b.2
theorem okAll_sD (l : List St) : okAll (l.map sD) = true := okAll_map l sD (fun x _ => ⟨(sh_sD x).1, Nat.le_trans (sh_sD x).2 (by omega), rfl⟩) fun x _ y _ => like_sD x y
theorem nocs_sD (l : List St) : nocs (l.map sD) = true := by
  induction l with
  | nil => rfl
  | cons a l ih => rw [List.map_cons, nocs, ih]; rfl
theorem maxD_sD (x : St) (xs : List St) : maxD (sD x) (xs.map sD) = sD (xs.foldl mx x) := by
  induction xs generalizing x with
  | nil => rfl
  | cons y ys ih =>
    show maxD (if ltD (sD x) (sD y) then sD y else sD x) (ys.map sD) = _
    have : (if ltD (sD x) (sD y) then sD y else sD x) = sD (mx x y) := by
      rw [ltD_sD]; unfold mx
      by_cases c : lt x y <;> simp [c]
    rw [this, ih]; rfl
theorem maxL (x : St) (xs : List St) : bltD .max [.lst ((x :: xs).map sD)] = some (sD (xs.foldl mx x)) := by
  have h1 := okAll_sD (x :: xs)
  have h2 := nocs_sD (x :: xs)
  rw [List.map_cons] at h1 h2 ⊢
  show (if okAll _ && nocs _ then some (maxD _ _) else none) = _
  rw [h1, h2]
  simp only [Bool.and_self, if_true, maxD_sD]
theorem okSort_sD {l : List St} (h : l.length ≤ 1000) : okSort (l.map sD) = true := by
  have big : (1000 : Nat) ≤ sizeLine := by decide
  unfold okSort
  simp only [Bool.and_eq_true, Bool.or_eq_true, List.all_eq_true, decide_eq_true_eq]
  refine ⟨okAll_sD l, by rw [List.length_map]; omega, .inl fun d hd => ?_⟩
  obtain ⟨s, _, rfl⟩ := List.mem_map.mp hd
  rfl
theorem sortD_sD (l : List St) : sortD (l.map sD) = (l.mergeSort fun a b => !decide (lt b a)).map sD := by
  unfold sortD
  rw [← PySem.W.sort_maps (r := fun a b : St => !decide (lt b a)) sD]
  intro a _ b _
  unfold leD
  rw [ltD_sD]
/-- a law's dict of versions -/
def dTv (es : List Ver) : List (List Key × D) := es.map fun v => (sK v.1, vD v.2)
theorem keys_dTv (es : List Ver) : (dTv es).map (fun e => dT1 e.1) = (es.map (·.1)).map sD := by
  unfold dTv
  rw [List.map_map, List.map_map]; rfl
theorem sdt_ok {l es : List Ver} (h : Same l es) (hl : l.length ≤ 1000) : sdtD (.dT (dTv es)) = some (.lst ((l.map (·.1)).map sD)) := by
  unfold sdtD
  simp only
  rw [keys_dTv]
  unfold sortedD
  rw [if_pos (okSort_sD (by rw [List.length_map, ← h.len]; exact hl)), sortD_sD, h.sort]
theorem look_dTv (es : List Ver) (s : St) : dget (.dT (dTv es)) (sD s) = some ((look es s).map vD) := by
  show (keyT (sD s)).map (look (dTv es)) = _
  rw [keyT_sD, Option.map_some]
  unfold dTv
  rw [look_map sK_inj]
theorem put_dTv (es : List Ver) (s : St) (v : Vl) (h : es.length < 1000) : setItem' (.dT (dTv es)) (sD s) (vD v) = some (.dT (dTv (dput es s v))) := by
  have big : (1000 : Nat) ≤ sizeLine := by decide
  show (match keyT (sD s) with
    | some k => if (dTv es).length < sizeLine then some (D.dT (dput (dTv es) k (vD v))) else none
    | none => none) = _
  rw [keyT_sD]
  simp only
  rw [if_pos (by unfold dTv; rw [List.length_map]; omega)]
  unfold dTv
  rw [dput_map sK_inj vD]
/-- a sort by stamps -/
theorem sortBy_ok {l : List Ver} (hl : l.length ≤ 1000) : sortByD (l.map eD) (l.map fun e => sD e.1) = some (.lst ((srt l).map eD)) := by
  unfold sortByD
  have e : l.map (fun e => sD e.1) = (l.map (·.1)).map sD := by rw [List.map_map]; rfl
  rw [if_pos ⟨by rw [e]; exact okSort_sD (by rw [List.length_map]; exact hl), by simp⟩]
  have e2 : (l.map eD).zip (l.map fun e => sD e.1) = l.map fun x => (eD x, sD x.1) := by
    induction l with
    | nil => rfl
    | cons a l ih => simp only [List.map_cons, List.zip_cons_cons]; rw [ih (by simp at hl; omega) (by rw [List.map_map]; rfl)]
  rw [e2, ← PySem.W.sort_maps (r := leB) (fun x : Ver => (eD x, sD x.1)) (fun a _ b _ => by
    unfold leB leD
    rw [ltD_sD]), List.map_map]
  rfl
/-! # the table -/
abbrev Rows := List (Str × List Ver)
abbrev Ints := List (Str × In)
def rwD (R : Rows) : List (Key × D) := R.map fun e => (Sum.inr e.1, D.lst (e.2.map eD))
def itD (I : Ints) : List (Key × D) := I.map fun e => (Sum.inr e.1, inD e.2)
def tF (m : Nat) (b : Int) : List (Str × D) := [("rows", .ref (m+1)), ("intents", .ref (m+2)), ("records", .ref (m+3)), ("thresholds", .ref (m+4)), ("bound", .int b)]
@[simp] theorem tF_rows {m : Nat} {b : Int} : List.lookup ("rows" : Str) (tF m b) = some (.ref (m + 1)) := rfl
@[simp] theorem tF_intents {m : Nat} {b : Int} : List.lookup ("intents" : Str) (tF m b) = some (.ref (m + 2)) := rfl
@[simp] theorem tF_records {m : Nat} {b : Int} : List.lookup ("records" : Str) (tF m b) = some (.ref (m + 3)) := rfl
@[simp] theorem tF_thresholds {m : Nat} {b : Int} : List.lookup ("thresholds" : Str) (tF m b) = some (.ref (m + 4)) := rfl
@[simp] theorem tF_bound {m : Nat} {b : Int} : List.lookup ("bound" : Str) (tF m b) = some (.int b) := rfl
@[simp] theorem tF_m1 {m : Nat} {b : Int} : List.lookup ("versions" : Str) (tF m b) = none := rfl
@[simp] theorem tF_m2 {m : Nat} {b : Int} : List.lookup ("keys_in" : Str) (tF m b) = none := rfl
@[simp] theorem tF_m3 {m : Nat} {b : Int} : List.lookup ("put_version" : Str) (tF m b) = none := rfl
@[simp] theorem tF_m4 {m : Nat} {b : Int} : List.lookup ("take_version" : Str) (tF m b) = none := rfl
@[simp] theorem tF_m5 {m : Nat} {b : Int} : List.lookup ("apply" : Str) (tF m b) = none := rfl
@[simp] theorem tF_m6 {m : Nat} {b : Int} : List.lookup ("apply_all" : Str) (tF m b) = none := rfl
@[simp] theorem tF_m7 {m : Nat} {b : Int} : List.lookup ("threshold" : Str) (tF m b) = none := rfl
structure Tab (S : Store) (m : Nat) (R : Rows) (I : Ints) (C : List (List Key × D)) (Hh : List (Key × D)) (b : Int) : Prop where
  t : S[m]? = some (.ins "Table" (tF m b))
  r : S[m + 1]? = some (.con (.dK (rwD R)))
  i : S[m + 2]? = some (.con (.dK (itD I)))
  c : S[m + 3]? = some (.con (.dT C))
  h : S[m + 4]? = some (.con (.dK Hh))
theorem Tab.of {S S' : Store} {m R I C Hh b} (h : Tab S m R I C Hh b) (e : ∀ k, m ≤ k → k ≤ m + 4 → S'[k]? = S[k]?) : Tab S' m R I C Hh b :=
  ⟨by rw [e _ (by omega) (by omega)]; exact h.t, by rw [e _ (by omega) (by omega)]; exact h.r, by rw [e _ (by omega) (by omega)]; exact h.i, by rw [e _ (by omega) (by omega)]; exact h.c, by rw [e _ (by omega) (by omega)]; exact h.h⟩
def vers (R : Rows) (k : Str) : List Ver := (look R k).getD []
theorem dget_rwD (R : Rows) (k : Str) : dget (.dK (rwD R)) (.str k) = some ((look R k).map fun l => .lst (l.map eD)) := by
  show (keyK (.str k)).map (look (rwD R)) = _
  show some (look (rwD R) (Sum.inr k)) = _
  unfold rwD
  rw [look_map inr_inj (fun l : List Ver => D.lst (l.map eD))]
theorem dget_itD (I : Ints) (k : Str) : dget (.dK (itD I)) (.str k) = some ((look I k).map inD) := by
  show some (look (itD I) (Sum.inr k)) = _
  unfold itD
  rw [look_map inr_inj inD]
theorem vers_getD (R : Rows) (k : Str) : ((look R k).map fun l => D.lst (l.map eD)).getD (.lst []) = .lst ((vers R k).map eD) := by
  unfold vers
  cases look R k <;> rfl
theorem set_rwD (R : Rows) (k : Str) (l : List Ver) (h : R.length < 1000) : setItem' (.dK (rwD R)) (.str k) (.lst (l.map eD)) = some (.dK (rwD (dput R k l))) := by
  have big : (1000 : Nat) ≤ sizeLine := by decide
  show (if (rwD R).length < sizeLine then some (D.dK (dput (rwD R) (Sum.inr k) (.lst (l.map eD)))) else none) = _
  rw [if_pos (by unfold rwD; rw [List.length_map]; omega)]
  unfold rwD
  rw [dput_map inr_inj (fun l : List Ver => D.lst (l.map eD))]
theorem set_itD (I : Ints) (k : Str) (i : In) (h : I.length < 1000) : setItem' (.dK (itD I)) (.str k) (inD i) = some (.dK (itD (dput I k i))) := by
  have big : (1000 : Nat) ≤ sizeLine := by decide
  show (if (itD I).length < sizeLine then some (D.dK (dput (itD I) (Sum.inr k) (inD i))) else none) = _
  rw [if_pos (by unfold itD; rw [List.length_map]; omega)]
  unfold itD
  rw [dput_map inr_inj inD]
theorem drop_itD (I : Ints) (k : Str) : ddrop (itD I) (Sum.inr k) = itD (ddrop I k) := by
  unfold itD
  exact ddrop_map inr_inj inD I k
theorem drop_rwD (R : Rows) (k : Str) : ddrop (rwD R) (Sum.inr k) = rwD (ddrop R k) := by
  unfold rwD
  exact ddrop_map inr_inj (fun l : List Ver => D.lst (l.map eD)) R k
end Tb

set_option Elab.async false
set_option linter.all false
set_option maxRecDepth 100000
set_option maxHeartbeats 1000000
namespace Tb
open PySem PySem.Spec PyProof.Rows L2 Z
/-! # the table's methods -/
section
variable {T : Prog} {n : Nat} {S : Store} {m : Nat} {R : Rows} {I : Ints} {C : List (List Key × D)} {Hh : List (Key × D)} {b : Int}
theorem Tab.setR (h : Tab S m R I C Hh b) (R' : Rows) : Tab (S.set (m + 1) (.con (.dK (rwD R')))) m R' I C Hh b := by
  have hl : m + 1 < S.length := (List.getElem?_eq_some_iff.mp h.r).1
  refine ⟨?_, List.getElem?_set_self hl, ?_, ?_, ?_⟩
  · rw [List.getElem?_set_ne (by omega)]; exact h.t
  · rw [List.getElem?_set_ne (by omega)]; exact h.i
  · rw [List.getElem?_set_ne (by omega)]; exact h.c
  · rw [List.getElem?_set_ne (by omega)]; exact h.h
theorem Tab.setI (h : Tab S m R I C Hh b) (I' : Ints) : Tab (S.set (m + 2) (.con (.dK (itD I')))) m R I' C Hh b := by
  have hl : m + 2 < S.length := (List.getElem?_eq_some_iff.mp h.i).1
  refine ⟨?_, ?_, List.getElem?_set_self hl, ?_, ?_⟩
  · rw [List.getElem?_set_ne (by omega)]; exact h.t
  · rw [List.getElem?_set_ne (by omega)]; exact h.r
  · rw [List.getElem?_set_ne (by omega)]; exact h.c
  · rw [List.getElem?_set_ne (by omega)]; exact h.h
theorem TabT.f_rows (A : TabT T) : T.fld "Table" "rows" = true := A.fld _ (by simp)
theorem TabT.f_intents (A : TabT T) : T.fld "Table" "intents" = true := A.fld _ (by simp)
theorem TabT.f_records (A : TabT T) : T.fld "Table" "records" = true := A.fld _ (by simp)
theorem TabT.f_thresholds (A : TabT T) : T.fld "Table" "thresholds" = true := A.fld _ (by simp)
theorem TabT.f_bound (A : TabT T) : T.fld "Table" "bound" = true := A.fld _ (by simp)
theorem fld_rows (A : TabT T) (h : Tab S m R I C Hh b) {ρ : Env'} {j : Nat} (hj : ρ[j]? = some (.fz (.ref m))) : evE (Z.run T n) (.fld (.var j) "rows") ρ S = some (.ref (m + 1), S) := by
  simp -implicitDefEqProofs [hj, h.t, A.f_rows]
theorem fld_intents (A : TabT T) (h : Tab S m R I C Hh b) {ρ : Env'} {j : Nat} (hj : ρ[j]? = some (.fz (.ref m))) : evE (Z.run T n) (.fld (.var j) "intents") ρ S = some (.ref (m + 2), S) := by
  simp -implicitDefEqProofs [hj, h.t, A.f_intents]
theorem fld_records (A : TabT T) (h : Tab S m R I C Hh b) {ρ : Env'} {j : Nat} (hj : ρ[j]? = some (.fz (.ref m))) : evE (Z.run T n) (.fld (.var j) "records") ρ S = some (.ref (m + 3), S) := by
  simp -implicitDefEqProofs [hj, h.t, A.f_records]
theorem fld_thresholds (A : TabT T) (h : Tab S m R I C Hh b) {ρ : Env'} {j : Nat} (hj : ρ[j]? = some (.fz (.ref m))) : evE (Z.run T n) (.fld (.var j) "thresholds") ρ S = some (.ref (m + 4), S) := by
  simp -implicitDefEqProofs [hj, h.t, A.f_thresholds]
theorem fld_bound (A : TabT T) (h : Tab S m R I C Hh b) {ρ : Env'} {j : Nat} (hj : ρ[j]? = some (.fz (.ref m))) : evE (Z.run T n) (.fld (.var j) "bound") ρ S = some (.int b, S) := by
  simp -implicitDefEqProofs [hj, h.t, A.f_bound]
/-- rows.get(key, []) -/
theorem rows_get (A : TabT T) (h : Tab S m R I C Hh b) (k : Str) {ρ : Env'} {j i : Nat} (hj : ρ[j]? = some (.fz (.ref m))) (hi : ρ[i]? = some (.fz (.str k))) :
    evE (Z.run T n) (.getd (.fld (.var j) "rows") (.var i) (.list .nil)) ρ S = some (.lst ((vers R k).map eD), S) := by
  have e := fld_rows (n := n) A h hj
  have v := vers_getD R k
  simp -implicitDefEqProofs [-x_evE_fld, e, hOf, h.r, hi, isDct, dget_rwD, v]
theorem versions_ok (A : TabT T) (h : Tab S m R I C Hh b) (k : Str) : runF T (n + 1) ("Table", some "versions") [.ref m, .str k] S = some (.lst ((vers R k).map eD), S) := by
  rw [run_def A.a_Table_versions _ S rfl]
  show (evSs (Z.run T n) b_Table_versions [.fz (.ref m), .fz (.str k)] S).bind outR = _
  have e := rows_get (n := n) (ρ := [.fz (.ref m), .fz (.str k)]) (j := 0) (i := 1) A h k rfl rfl
  simp -implicitDefEqProofs [-x_evE_getd, b_Table_versions, e, hOf, bltD]
  rfl
theorem stamp_of_ok (A : TabT T) (v : Ver) : runF T (n + 1) ("_stamp_of", none) [eD v] S = some (sD v.1, S) := by
  rw [run_def A.a__stamp_of _ S rfl]
  show (evSs (Z.run T n) b__stamp_of [.fz (eD v)] S).bind outR = _
  simp -implicitDefEqProofs [b__stamp_of, hOf, Cst.d]
  rfl
theorem keysG_map {α : Type} {f : D → Option (D × Store)} {g h : α → D} : ∀ (xs : List α), (∀ x ∈ xs, f (g x) = some (h x, S)) → keysG f S (xs.map g) = some (xs.map h)
  | [], _ => rfl
  | x :: xs, e => by
    rw [List.map_cons, keysG, e x List.mem_cons_self]
    simp only [Option.bind_some, if_true]
    rw [keysG_map xs fun y hy => e y (List.mem_cons_of_mem _ hy)]
    rfl
theorem skey_ok {G : Fns} {f : Str} {a : Ex} {ρ : Env'} {S1 : Store} {w : Hd} {xs : List Ver} (hne : xs ≠ []) (hl : xs.length ≤ 1000) (e1 : hOf a ρ S (evE G a ρ S) = some (w, S1)) (e2 : cont ρ S1 w = some (.lst (xs.map eD))) (hf : ∀ x ∈ xs, G.fn (f, none) [eD x] S1 = some (sD x.1, S1)) :
    evE G (.skey f a) ρ S = some (.lst ((srt xs).map eD), S1) := by
  obtain ⟨x, l, rfl⟩ : ∃ x l, xs = x :: l := by cases xs with
    | nil => exact absurd rfl hne
    | cons x l => exact ⟨x, l, rfl⟩
  have k := keysG_map (S := S1) (f := fun d => G.fn (f, none) [d] S1) (g := eD) (h := fun e => sD e.1) (x :: l) hf
  have s := sortBy_ok (l := x :: l) hl
  rw [List.map_cons] at k s e2
  rw [x_evE_skey, e1]
  simp only [bnd_some, e2, k, s, mp_some]
theorem rest_ok (A : TabT T) (h : Tab S m R I C Hh b) (k : Str) (s : St) {ρ : Env'} {i : Nat} (hv : (vers R k).length ≤ 900) (h0 : ρ[0]? = some (.fz (.ref m))) (h1 : ρ[1]? = some (.fz (.str k))) (h2 : ρ[2]? = some (.fz (sD s))) (hi : i < ρ.length) (hi2 : i ≠ 2) (no : noOwn ρ [i] = true) :
    evE (Z.run T n) (.comp (.nm i) (.seq (.getd (.fld (.var 0) "rows") (.var 1) (.list .nil))) (.cons (.cmp .NotEq (.idx (.var i) (.cst (.int 0))) (.var 2)) .nil) (.var i)) ρ S = some (.lst ((drp (vers R k) s).map eD), S) := by
  refine comp_keeph (w := .val (.lst ((vers R k).map eD))) eD (vers R k) (fun e => !decide (e.1 = s)) no rfl ?_ hi (fun x hx => ?_) (by omega)
  · have e := rows_get (n := n) (ρ := ρ) (j := 0) (i := 1) A h k h0 h1
    simp -implicitDefEqProofs [-x_evE_getd, e, hOf]
  · have g2 : (ρ.set i (.fz (eD x)))[2]? = some (.fz (sD s)) := by
      rw [List.getElem?_set_ne hi2]; exact h2
    have gi : (ρ.set i (.fz (eD x)))[i]? = some (.fz (eD x)) := List.getElem?_set_self hi
    rw [List.set_set]
    simp -implicitDefEqProofs [hOf, g2, gi, Cst.d, c_ne]
theorem put_ok (A : TabT T) (h : Tab S m R I C Hh b) (k : Str) (s : St) (v : Vl) (hv : (vers R k).length ≤ 900) (hR : R.length < 1000) :
    runF T (n + 2) ("Table", some "put_version") [.ref m, .str k, sD s, vD v] S = some (.non, S.set (m + 1) (.con (.dK (rwD (dput R k (putL (vers R k) s v)))))) := by
  have big : (1000 : Nat) ≤ sizeLine := by decide
  rw [run_def A.a_Table_put_version _ S rfl]
  show (evSs (Z.run T (n + 1)) b_Table_put_version [.fz (.ref m), .fz (.str k), .fz (sD s), .fz (vD v), .un, .un] S).bind outR = _
  have e0 := rest_ok (n := n + 1) (ρ := [.fz (.ref m), .fz (.str k), .fz (sD s), .fz (vD v), .un, .un]) (i := 5) A h k s hv rfl rfl rfl (show 5 < 6 by decide) (by decide) rfl
  have q0 : evS (Z.run T (n + 1)) Table_put_version0 [.fz (.ref m), .fz (.str k), .fz (sD s), .fz (vD v), .un, .un] S = some (.nxt [.fz (.ref m), .fz (.str k), .fz (sD s), .fz (vD v), .fz (.lst ((drp (vers R k) s).map eD)), .un] S) := by
    unfold Table_put_version0
    rw [x_evS_asg, e0]
    simp -implicitDefEqProofs [bindT]
  have dl : (drp (vers R k) s).length ≤ 900 := Nat.le_trans (List.length_filter_le _ _) hv
  have e1 : evE (Z.run T (n + 1)) (.skey "_stamp_of" (.bin .Add (.var 4) (.list (.cons (.tup (.cons (.var 2) (.cons (.var 3) .nil))) .nil)))) [.fz (.ref m), .fz (.str k), .fz (sD s), .fz (vD v), .fz (.lst ((drp (vers R k) s).map eD)), .un] S = some (.lst ((putL (vers R k) s v).map eD), S) := by
    refine skey_ok (xs := drp (vers R k) s ++ [(s, v)]) (S1 := S) (w := .val (.lst ((drp (vers R k) s ++ [(s, v)]).map eD))) (by simp) (by simp; omega) ?_ rfl fun x _ => ?_
    · have l1 : (drp (vers R k) s).length + 1 ≤ sizeLine := by omega
      simp -implicitDefEqProofs [hOf, binD, len2, len1, l1]
      rfl
    · exact stamp_of_ok (n := n) A x
  have fr := fld_rows (n := n + 1) (ρ := [.fz (.ref m), .fz (.str k), .fz (sD s), .fz (vD v), .fz (.lst ((drp (vers R k) s).map eD)), .un]) (j := 0) A h rfl
  have sr := set_rwD R k (putL (vers R k) s v) hR
  have q1 : evS (Z.run T (n + 1)) Table_put_version1 [.fz (.ref m), .fz (.str k), .fz (sD s), .fz (vD v), .fz (.lst ((drp (vers R k) s).map eD)), .un] S = some (.nxt [.fz (.ref m), .fz (.str k), .fz (sD s), .fz (vD v), .fz (.lst ((drp (vers R k) s).map eD)), .un] (S.set (m + 1) (.con (.dK (rwD (dput R k (putL (vers R k) s v))))))) := by
    unfold Table_put_version1
    simp -implicitDefEqProofs [-x_evE_skey, -x_evE_fld, e1, fr, hOf, h.r, sr, putC, setC]
  have : b_Table_put_version = .cons Table_put_version0 (.cons Table_put_version1 .nil) := rfl
  rw [this, seq1 q0, seq1 q1]
  simp only [x_evSs_nil]
  rfl
theorem apply_version (A : TabT T) (h : Tab S m R I C Hh b) (k : Str) (s : St) (v : Vl) (hv : (vers R k).length ≤ 900) (hR : R.length < 1000) :
    runF T (n + 3) ("Table", some "apply") [.ref m, .tup [.str "version", .str k, sD s, vD v]] S = some (.non, S.set (m + 1) (.con (.dK (rwD (dput R k (putL (vers R k) s v)))))) := by
  rw [run_def A.a_Table_apply _ S rfl]
  show (evSs (Z.run T (n + 2)) b_Table_apply [.fz (.ref m), .fz (.tup [.str "version", .str k, sD s, vD v]), .un] S).bind outR = _
  have p := put_ok (n := n) A h k s v hv hR
  have c0 : cmpD .Eq (.str "version") (.str "version") = some true := by decide +kernel
  have i0 : idxD (.tup [.str "version", .str k, sD s, vD v]) (.int 0) = some (.str "version") := rfl
  have i1 : idxD (.tup [.str "version", .str k, sD s, vD v]) (.int 1) = some (.str k) := rfl
  have i2 : idxD (.tup [.str "version", .str k, sD s, vD v]) (.int 2) = some (sD s) := rfl
  have i3 : idxD (.tup [.str "version", .str k, sD s, vD v]) (.int 3) = some (vD v) := rfl
  simp -implicitDefEqProofs [-idx_t, b_Table_apply, hOf, Cst.d, bindT, i0, i1, i2, i3, c0, h.t, p]
  rfl
theorem pop_itD (I : Ints) (k : Str) : ∃ x, popD (.dK (itD I)) [.str k, .non] = some (x, .dK (itD (ddrop I k))) := by
  have h : popD (.dK (itD I)) [.str k, .non] = some (match look (itD I) (Sum.inr k) with
    | some v => (v, .dK (ddrop (itD I) (Sum.inr k)))
    | none => (.non, .dK (itD I))) := rfl
  rw [h]
  have e : look (itD I) (Sum.inr k) = (look I k).map inD := look_map inr_inj inD I k
  rw [e]
  cases c : look I k with
  | none =>
    have : ddrop I k = I := by
      unfold ddrop
      rw [List.filter_eq_self]
      intro a ha
      simp
      exact fun z => look_none.mp c (List.mem_map.mpr ⟨a, ha, z⟩)
    exact ⟨.non, by simp [this]⟩
  | some i => exact ⟨inD i, by simp [drop_itD]⟩
theorem pop_rwD (R : Rows) (k : Str) : ∃ x, popD (.dK (rwD R)) [.str k, .non] = some (x, .dK (rwD (ddrop R k))) := by
  have h : popD (.dK (rwD R)) [.str k, .non] = some (match look (rwD R) (Sum.inr k) with
    | some v => (v, .dK (ddrop (rwD R) (Sum.inr k)))
    | none => (.non, .dK (rwD R))) := rfl
  rw [h]
  have e : look (rwD R) (Sum.inr k) = (look R k).map fun l => .lst (l.map eD) := look_map inr_inj (fun l : List Ver => D.lst (l.map eD)) R k
  rw [e]
  cases c : look R k with
  | none =>
    have : ddrop R k = R := by
      unfold ddrop
      rw [List.filter_eq_self]
      intro a ha
      simp
      exact fun z => look_none.mp c (List.mem_map.mpr ⟨a, ha, z⟩)
    exact ⟨.non, by simp [this]⟩
  | some i => exact ⟨.lst (i.map eD), by simp [drop_rwD]⟩
theorem cv0 : cmpD .Eq (.str "intent") (.str "version") = some false := by decide +kernel
theorem cv1 : cmpD .Eq (.str "intent") (.str "no version") = some false := by decide +kernel
theorem cv2 : cmpD .Eq (.str "intent") (.str "intent") = some true := by decide +kernel
theorem apply_intent (A : TabT T) (h : Tab S m R I C Hh b) (k : Str) (i : In) (hI : I.length < 1000) :
    runF T (n + 1) ("Table", some "apply") [.ref m, .tup [.str "intent", .str k, inD i]] S = some (.non, S.set (m + 2) (.con (.dK (itD (dput (ddrop I k) k i))))) := by
  rw [run_def A.a_Table_apply _ S rfl]
  show (evSs (Z.run T n) b_Table_apply [.fz (.ref m), .fz (.tup [.str "intent", .str k, inD i]), .un] S).bind outR = _
  obtain ⟨x, p⟩ := pop_itD I k
  have hl : m + 2 < S.length := (List.getElem?_eq_some_iff.mp h.i).1
  have t2 : (S.set (m + 2) (.con (.dK (itD (ddrop I k)))))[m]? = some (.ins "Table" (tF m b)) := (h.setI _).t
  have s2 : (S.set (m + 2) (.con (.dK (itD (ddrop I k)))))[m + 2]? = some (.con (.dK (itD (ddrop I k)))) := (h.setI _).i
  have si := set_itD (ddrop I k) k i (Nat.lt_of_le_of_lt (len_ddrop I k) hI)
  have i0 : idxD (.tup [.str "intent", .str k, inD i]) (.int 0) = some (.str "intent") := rfl
  have i1 : idxD (.tup [.str "intent", .str k, inD i]) (.int 1) = some (.str k) := rfl
  have i2 : idxD (.tup [.str "intent", .str k, inD i]) (.int 2) = some (inD i) := rfl
  have n1 : isoD (inD i) true .non = some (.bl true) := rfl
  simp -implicitDefEqProofs [-idx_t, b_Table_apply, hOf, Cst.d, bindT, i0, i1, i2, cv0, cv1, cv2, h.t, h.i, A.f_intents, p, putC, setC, isDct, isLst, t2, s2, n1, si]
  rfl
theorem apply_gone (A : TabT T) (h : Tab S m R I C Hh b) (k : Str) :
    runF T (n + 1) ("Table", some "apply") [.ref m, .tup [.str "intent", .str k, .non]] S = some (.non, S.set (m + 2) (.con (.dK (itD (ddrop I k))))) := by
  rw [run_def A.a_Table_apply _ S rfl]
  show (evSs (Z.run T n) b_Table_apply [.fz (.ref m), .fz (.tup [.str "intent", .str k, .non]), .un] S).bind outR = _
  obtain ⟨x, p⟩ := pop_itD I k
  have i0 : idxD (.tup [.str "intent", .str k, .non]) (.int 0) = some (.str "intent") := rfl
  have i1 : idxD (.tup [.str "intent", .str k, .non]) (.int 1) = some (.str k) := rfl
  have i2 : idxD (.tup [.str "intent", .str k, .non]) (.int 2) = some .non := rfl
  have n1 : isoD .non true .non = some (.bl false) := rfl
  simp -implicitDefEqProofs [-idx_t, b_Table_apply, hOf, Cst.d, bindT, i0, i1, i2, cv0, cv1, cv2, h.t, h.i, A.f_intents, p, putC, setC, isDct, isLst, n1]
  rfl
end
end Tb

set_option Elab.async false
set_option linter.all false
set_option maxRecDepth 100000
set_option maxHeartbeats 1000000
namespace Tb
open PySem PySem.Spec PyProof.Rows L2 Z
/-! # draws -/
def Rd (S : Store) (st c : Nat) : Prop := ∃ pos cs, Rnd S st c pos cs
def Wnt (st c : Nat) (S S' : Store) : Prop := Rd S' st c ∧ S'.length = S.length ∧ ∀ k, k ≠ st → k ≠ c → S'[k]? = S[k]?
theorem Wnt.trans {st c : Nat} {S S1 S2 : Store} (a : Wnt st c S S1) (b : Wnt st c S1 S2) : Wnt st c S S2 := ⟨b.1, b.2.1.trans a.2.1, fun k h1 h2 => (b.2.2 k h1 h2).trans (a.2.2 k h1 h2)⟩
theorem Wnt.refl {st c : Nat} {S : Store} (h : Rd S st c) : Wnt st c S S := ⟨h, rfl, fun _ _ _ => rfl⟩
section
variable {T : Prog} {n : Nat} {S : Store} {st c : Nat}
theorem take (A : TabT T) (h : Rd S st c) (most : Int) (h0 : 0 < most) (h1 : most < 1073741824) : ∃ v S', runF T (n + 1) ("_law_take", none) [.ref st, .int most] S = some (.int v, S') ∧ 0 ≤ v ∧ v < most ∧ Wnt st c S S' := by
  obtain ⟨pos, cs, R⟩ := h
  obtain ⟨v, S', e, d1, d2, d3, d4, d5⟩ := take_ok A.a__law_take (n := n) R most h1
  exact ⟨v, S', e, (d1 h0).1, (d1 h0).2, d3, d4, d5⟩
theorem pick {α : Type} (A : TabT T) (h : Rd S st c) (f : α → D) (xs : List α) (hn : xs ≠ []) (hl : xs.length ≤ 1000) : ∃ x S', x ∈ xs ∧ runF T (n + 2) ("_law_pick", none) [.ref st, .lst (xs.map f)] S = some (f x, S') ∧ Wnt st c S S' := by
  have h0 : 0 < xs.length := List.length_pos_iff.mpr hn
  obtain ⟨v, S', e, v0, v1, w⟩ := take (n := n) A h (xs.length : Int) (by omega) (by omega)
  obtain ⟨x, hx, ex⟩ := Z.atI_in (f := f) (xs := xs) ⟨v0, v1⟩
  refine ⟨x, S', hx, ?_, w⟩
  rw [run_def A.a__law_pick _ S rfl]
  show (evSs (Z.run T (n + 1)) b__law_pick [.fz (.ref st), .fz (.lst (xs.map f))] S).bind outR = _
  simp -implicitDefEqProofs [b__law_pick, hOf, e, ex]
  rfl
theorem big5 : (5 : Nat) ≤ sizeLine ∧ (6 : Nat) ≤ sizeLine ∧ (4 : Nat) ≤ sizeLine ∧ (3 : Nat) ≤ sizeLine ∧ (8 : Nat) ≤ sizeLine ∧ (9 : Nat) ≤ sizeLine := by decide
def stOk6 (s : St) : Prop := 0 ≤ s.1 ∧ s.1 < 6 ∧ s.2 ∈ ([0, 0, 1, 2, 999999] : List Int)
theorem stOk6.ok {s : St} (h : stOk6 s) : okS s := by
  obtain ⟨a, b, c⟩ := h
  simp at c
  unfold okS
  omega
theorem stamp (A : TabT T) (h : Rd S st c) : ∃ s S', stOk6 s ∧ runF T (n + 3) ("_law_stamp", none) [.ref st] S = some (sD s, S') ∧ Wnt st c S S' := by
  obtain ⟨v, S1, e1, v0, v1, w1⟩ := take (n := n + 1) A h 6 (by decide) (by decide)
  obtain ⟨x, S2, hx, e2, w2⟩ := pick (n := n) A w1.1 D.int [0, 0, 1, 2, 999999] (by simp) (by simp)
  refine ⟨(v, x), S2, ⟨v0, v1, hx⟩, ?_, w1.trans w2⟩
  rw [run_def A.a__law_stamp _ S rfl]
  show (evSs (Z.run T (n + 2)) b__law_stamp [.fz (.ref st)] S).bind outR = _
  simp only [List.map_cons, List.map_nil] at e2
  simp -implicitDefEqProofs [b__law_stamp, Cst.d, e1, e2, big5, len2]
  rfl
theorem key (A : TabT T) (h : Rd S st c) : ∃ k S', k ∈ keys5 ∧ runF T (n + 3) ("_law_key", none) [.ref st] S = some (.str k, S') ∧ Wnt st c S S' := by
  obtain ⟨x, S2, hx, e2, w2⟩ := pick (n := n) A h D.str keys5 (by simp [keys5]) (by simp [keys5])
  refine ⟨x, S2, hx, ?_, w2⟩
  rw [run_def A.a__law_key _ S rfl]
  show (evSs (Z.run T (n + 2)) b__law_key [.fz (.ref st)] S).bind outR = _
  simp only [keys5, List.map_cons, List.map_nil] at e2
  simp -implicitDefEqProofs [b__law_key, Cst.d, e2, big5]
  rfl
abbrev Sp := Str × Str
def spD (s : Sp) : D := .tup [.str s.1, .str s.2]
@[simp] theorem cont_spD {ρ : Env'} {S : Store} {s : Sp} : cont ρ S (.val (spD s)) = some (spD s) := rfl
@[simp] theorem idx_sp0 {s : Sp} : idxD (spD s) (.int 0) = some (.str s.1) := rfl
@[simp] theorem idx_sp1 {s : Sp} : idxD (spD s) (.int 1) = some (.str s.2) := rfl
def spans6 : List Sp := [("", "~"), ("a", "c"), ("b", "b "), ("b", "d"), ("c", "cb"), ("ca", "~")]
theorem sp_ok {s : Sp} (h : s ∈ spans6) : PyData.strOk s.1 = true ∧ PyData.strOk s.2 = true := by
  have : ∀ s ∈ spans6, PyData.strOk s.1 = true ∧ PyData.strOk s.2 = true := by decide +kernel
  exact this s h
theorem span (A : TabT T) (h : Rd S st c) : ∃ k S', k ∈ spans6 ∧ runF T (n + 3) ("_law_span", none) [.ref st] S = some (spD k, S') ∧ Wnt st c S S' := by
  obtain ⟨x, S2, hx, e2, w2⟩ := pick (n := n) A h spD spans6 (by simp [spans6]) (by simp [spans6])
  refine ⟨x, S2, hx, ?_, w2⟩
  rw [run_def A.a__law_span _ S rfl]
  show (evSs (Z.run T (n + 2)) b__law_span [.fz (.ref st)] S).bind outR = _
  simp only [spans6, spD, List.map_cons, List.map_nil] at e2
  simp -implicitDefEqProofs [b__law_span, Cst.d, e2, big5, len2]
  rfl
theorem txn (A : TabT T) (h : Rd S st c) (num : Int) (hn : okI num) : ∃ t S', TxOk t ∧ t.num = num ∧ stOk6 t.rd ∧ stOk6 t.wr ∧ le t.rd t.wr ∧ t.ep < 3 ∧ runF T (n + 4) ("_law_txn", none) [.ref st, .int num] S = some (txD t, S') ∧ Wnt st c S S' := by
  obtain ⟨first, S1, o1, e1, w1⟩ := stamp (n := n) A h
  obtain ⟨s2, S2, o2, e2, w2⟩ := stamp (n := n) A w1.1
  obtain ⟨s3, S3, o3, e3, w3⟩ := stamp (n := n) A w2.1
  obtain ⟨lim, S4, o4, e4, w4⟩ := pick (n := n + 1) A w3.1 sD [first, (first.1 + 2, 999999), s3] (by simp) (by simp)
  obtain ⟨ep, S5, e5, p0, p1, w5⟩ := take (n := n + 2) A w4.1 3 (by decide) (by decide)
  obtain ⟨pr, S6, e6, q0, q1, w6⟩ := take (n := n + 2) A w5.1 4 (by decide) (by decide)
  obtain ⟨an, S7, o7, e7, w7⟩ := key (n := n) A w6.1
  obtain ⟨bt, S8, o8, e8, w8⟩ := stamp (n := n) A w7.1
  have le1 : le first (mx first s2) := by
    unfold mx
    by_cases q : lt first s2
    · rw [if_pos q]; exact le_of_lt q
    · rw [if_neg q]; exact le_refl _
  have om : stOk6 (mx first s2) := by unfold mx; split <;> assumption
  have ol : okS lim := by
    simp at o4
    rcases o4 with rfl | rfl | rfl
    · exact o1.ok
    · have := o1; unfold stOk6 at this; unfold okS; simp; omega
    · exact o3.ok
  refine ⟨⟨num, ep, 1 + pr, an, first, mx first s2, lim, bt⟩, S8, ⟨hn, by unfold okI; dsimp only; omega, by unfold okI; dsimp only; omega, o7, o1.ok, om.ok, ol, o8.ok⟩, rfl, o1, om, le1, p1, ?_, ((((((w1.trans w2).trans w3).trans w4).trans w5).trans w6).trans w7).trans w8⟩
  rw [run_def A.a__law_txn _ S rfl]
  show (evSs (Z.run T (n + 3)) b__law_txn [.fz (.ref st), .fz (.int num), .un, .un, .un, .un] S).bind outR = _
  have m2 := max2 first s2
  have f2 : D.tup [.int (first.1 + 2), .int 999999] = sD (first.1 + 2, 999999) := rfl
  simp only [List.map_cons, List.map_nil] at e4
  simp -implicitDefEqProofs [b__law_txn, Cst.d, bindT, hOf, e1, e2, m2, e3, len2, big5, f2, e4, e5, e6, e7, e8]
  rfl
end
end Tb

set_option Elab.async false
set_option linter.all false
set_option maxRecDepth 100000
set_option maxHeartbeats 1000000
namespace Tb
open PySem PySem.Spec PyProof.Rows L2 Z
/-! # an intent, drawn; the table, made -/
section
variable {T : Prog} {n : Nat} {S : Store} {st c : Nat}
theorem range_items (k : Nat) : rngD 0 k = (List.range k).map fun j : Nat => D.int ((j : Nat) : Int) := by
  unfold rngD
  refine List.map_congr_left fun j _ => ?_
  rw [Int.zero_add]
theorem smallI_of {i : Int} (h : 0 ≤ i ∧ i < 1000000) : smallI i = true := by
  unfold smallI
  simp only [Bool.and_eq_true, decide_eq_true_eq]
  have : (1000000 : Int) < 2 ^ 62 := by decide
  have : -(2 ^ 62 : Int) ≤ 0 := by decide
  omega
theorem rng_ev {G : Fns} {e : Ex} {ρ : Env'} {S1 : Store} {v : Int} (h : evE G e ρ S = some (.int v, S1)) (h0 : 0 ≤ v ∧ v < 1000000) : evI G (.rng e) ρ S = some (.val .non, (List.range v.toNat).map (fun j : Nat => D.int ((j : Nat) : Int)), S1) := by
  rw [x_evI_rng, h]
  simp only [bnd_some, intOf_int, smallI_of h0, if_true, range_items]
theorem intent (A : TabT T) (h : Rd S st c) (num : Int) (hn : okI num) : ∃ i S', InOk i ∧ i.num = num ∧ i.ep < 3 ∧ stOk6 i.st ∧ i.rows.length ≤ 3 ∧ (∀ r ∈ i.rows, r.1 ≤ 6) ∧ runF T (n + 4) ("_law_intent", none) [.ref st, .int num] S = some (inD i, S') ∧ Wnt st c S S' := by
  obtain ⟨cnt, S1, e1, v0, v1, w1⟩ := take (n := n + 2) A h 3 (by decide) (by decide)
  have q0 : evS (Z.run T (n + 3)) law_intent0 [.fz (.ref st), .fz (.int num), .un, .un, .un, .un] S = some (.nxt [.fz (.ref st), .fz (.int num), .own (.lst []), .un, .un, .un] S) := by
    unfold law_intent0
    simp -implicitDefEqProofs [isFresh]
  have q1 : evS (Z.run T (n + 3)) law_intent1 [.fz (.ref st), .fz (.int num), .own (.lst []), .un, .un, .un] S = some (.nxt [.fz (.ref st), .fz (.int num), .own (.lst []), .fz (.int 0), .un, .un] S) := by
    unfold law_intent1
    simp -implicitDefEqProofs [Cst.d, bindT]
  have hi : evI (Z.run T (n + 3)) (.rng (.bin .Add (.cst (.int 1)) (.call "_law_take" (.cons (.var 0) (.cons (.cst (.int 3)) .nil))))) [.fz (.ref st), .fz (.int num), .own (.lst []), .fz (.int 0), .un, .un] S = some (.val .non, (List.range (1 + cnt).toNat).map (fun j : Nat => D.int ((j : Nat) : Int)), S1) := by
    refine rng_ev ?_ (by omega)
    simp -implicitDefEqProofs [Cst.d, hOf, e1]
  obtain ⟨ρ', S', e2, rows, seq, x4, rfl, r1, r2, r3, r4, w2⟩ := for_map (G := Z.run T (n + 3)) (t := .nm 4) (b := law_intent2b) (fun j : Nat => D.int ((j : Nat) : Int)) (List.range (1 + cnt).toNat)
    (fun p ρ S' => ∃ (rows : List (Int × Vl)) (seq : Int) (x4 : Z.Slot), ρ = [.fz (.ref st), .fz (.int num), .own (.lst (rows.map rD)), .fz (.int seq), x4, .un] ∧ rows.length = p.length ∧ 0 ≤ seq ∧ seq ≤ 2 * p.length ∧ (∀ r ∈ rows, 0 ≤ r.1 ∧ r.1 ≤ 2 * p.length ∧ okV r.2) ∧ Wnt st c S S')
    (fun n z => by cases z) hi ⟨[], 0, .un, rfl, rfl, by omega, by simp, by simp, w1⟩ (fun p x q hq ρ S2 hP => by
      obtain ⟨rows, seq, x4, rfl, r1, r2, r3, r4, w⟩ := hP
      obtain ⟨d, S3, e3, d0, d1, w3⟩ := take (n := n + 2) A w.1 2 (by decide) (by decide)
      obtain ⟨v, S4, hv, e4, w4⟩ := pick (n := n + 1) A w3.1 vD [none, some "x", some "y"] (by simp) (by simp)
      have pl : p.length ≤ 3 := by
        have := congrArg List.length hq
        simp at this; omega
      have big : (1000 : Nat) ≤ sizeLine := by decide
      refine ⟨_, [.fz (.ref st), .fz (.int num), .own (.lst ((rows ++ [(seq + 1 + d, v)]).map rD)), .fz (.int (seq + 1 + d)), .fz (.int x), .un], S4, rfl, ?_, rows ++ [(seq + 1 + d, v)], seq + 1 + d, .fz (.int x), rfl, by simp [r1], by omega, by simp; omega, fun r hr => ?_, (w.trans w3).trans w4⟩
      · have a0 : evS (Z.run T (n + 3)) law_intent2b0 [.fz (.ref st), .fz (.int num), .own (.lst (rows.map rD)), .fz (.int seq), .fz (.int x), .un] S2 = some (.nxt [.fz (.ref st), .fz (.int num), .own (.lst (rows.map rD)), .fz (.int (seq + 1 + d)), .fz (.int x), .un] S3) := by
          unfold law_intent2b0
          simp -implicitDefEqProofs [Cst.d, hOf, e3, bindT]
        have a1 : evS (Z.run T (n + 3)) law_intent2b1 [.fz (.ref st), .fz (.int num), .own (.lst (rows.map rD)), .fz (.int (seq + 1 + d)), .fz (.int x), .un] S3 = some (.nxt [.fz (.ref st), .fz (.int num), .own (.lst ((rows ++ [(seq + 1 + d, v)]).map rD)), .fz (.int (seq + 1 + d)), .fz (.int x), .un] S4) := by
          simp only [List.map_cons, List.map_nil, vD] at e4
          have rl : rows.length < sizeLine := by omega
          unfold law_intent2b1
          simp -implicitDefEqProofs [Cst.d, hOf, e4, isLst, len2, big5, rl, putC]
          rfl
        show evSs _ (.cons law_intent2b0 (.cons law_intent2b1 .nil)) _ _ = _
        rw [show (List.set [.fz (.ref st), .fz (.int num), .own (.lst (rows.map rD)), .fz (.int seq), x4, Z.Slot.un] 4 (.fz (.int x))) = [.fz (.ref st), .fz (.int num), .own (.lst (rows.map rD)), .fz (.int seq), .fz (.int x), .un] from rfl]
        rw [seq1 a0, seq1 a1]; simp only [x_evSs_nil]
      · rw [List.length_append, List.length_singleton]
        rcases List.mem_append.mp hr with h | h
        · obtain ⟨a, b, c⟩ := r4 r h
          exact ⟨a, by omega, c⟩
        · simp at h; subst h
          refine ⟨by dsimp only; omega, by dsimp only; omega, ?_⟩
          simp at hv
          rcases hv with rfl | rfl | rfl <;> simp [okV])
  obtain ⟨ep, S5, e5, p0, p1, w5⟩ := take (n := n + 2) A w2.1 3 (by decide) (by decide)
  obtain ⟨pr, S6, e6, q2, q3, w6⟩ := take (n := n + 2) A w5.1 4 (by decide) (by decide)
  obtain ⟨an, S7, o7, e7, w7⟩ := key (n := n) A w6.1
  obtain ⟨s1, S8, o8, e8, w8⟩ := stamp (n := n) A w7.1
  obtain ⟨s2, S9, o9, e9, w9⟩ := stamp (n := n) A w8.1
  have rl : rows.length = 1 + cnt.toNat := by rw [r1, List.length_range]; omega
  refine ⟨⟨num, ep, 1 + pr, an, s1, s2, rows⟩, S9, ⟨hn, by unfold okI; dsimp only; omega, by unfold okI; dsimp only; omega, o7, o8.ok, o9.ok, fun z => by dsimp only at z; rw [z] at rl; simp at rl; omega, by dsimp only; omega, fun r hr => ?_⟩, rfl, p1, o8, by dsimp only; omega, fun r hr => ?_, ?_, ((((w2.trans w5).trans w6).trans w7).trans w8).trans w9⟩
  · obtain ⟨a, b, c⟩ := r4 r hr
    exact ⟨by rw [List.length_range] at b; unfold okI; omega, c⟩
  · obtain ⟨a, b, c⟩ := r4 r hr
    rw [List.length_range] at b; omega
  · rw [run_def A.a__law_intent _ S rfl]
    show (evSs (Z.run T (n + 3)) b__law_intent [.fz (.ref st), .fz (.int num), .un, .un, .un, .un] S).bind outR = _
    have q2 : evS (Z.run T (n + 3)) law_intent2 [.fz (.ref st), .fz (.int num), .own (.lst []), .fz (.int 0), .un, .un] S = some (.nxt [.fz (.ref st), .fz (.int num), .own (.lst (rows.map rD)), .fz (.int seq), x4, .un] S') := e2
    have q3 : evS (Z.run T (n + 3)) law_intent3 [.fz (.ref st), .fz (.int num), .own (.lst (rows.map rD)), .fz (.int seq), x4, .un] S' = some (.nxt [.fz (.ref st), .fz (.int num), .own (.lst (rows.map rD)), .fz (.int seq), x4, .fz (.tup [.str "intent", .int num, .int ep, .int (1 + pr), .str an])] S7) := by
      unfold law_intent3
      simp -implicitDefEqProofs [Cst.d, hOf, e5, e6, e7, bindT, big5]
    have q4 : evS (Z.run T (n + 3)) law_intent4 [.fz (.ref st), .fz (.int num), .fz (.lst (rows.map rD)), .fz (.int seq), x4, .fz (.tup [.str "intent", .int num, .int ep, .int (1 + pr), .str an])] S7 = some (.ret (inD ⟨num, ep, 1 + pr, an, s1, s2, rows⟩) S9) := by
      unfold law_intent4
      simp -implicitDefEqProofs [Cst.d, hOf, e8, e9, big5, binD, inD]
    have : b__law_intent = .cons law_intent0 (.cons law_intent1 (.cons law_intent2 (.cons law_intent3 (.frz 2 (.cons law_intent4 .nil))))) := rfl
    rw [this, seq1 q0, seq1 q1, seq1 q2, seq1 q3]
    simp -implicitDefEqProofs [q4]
    rfl
end
end Tb

set_option Elab.async false
set_option linter.all false
set_option maxRecDepth 100000
set_option maxHeartbeats 1000000
namespace Tb
open PySem PySem.Spec PyProof.Rows L2 Z
/-! # the table and the law's own rows, made -/
structure Row where
  key : Str
  ref : Nat
  l : List Ver
  es : List Ver
def prR (M : List Row) : Rows := M.map fun r => (r.key, r.l)
def lwR (M : List Row) : List (Str × Nat) := M.map fun r => (r.key, r.ref)
def lwD (M : List Row) : List (Key × D) := (lwR M).map fun e => (Sum.inr e.1, D.ref e.2)
structure Law (S : Store) (m : Nat) (M : List Row) (I : Ints) : Prop where
  w : S[m + 5]? = some (.con (.dK (lwD M)))
  j : S[m + 6]? = some (.con (.dK (itD I)))
  lo : ∀ r ∈ M, m + 7 ≤ r.ref
  k : ∀ r ∈ M, S[r.ref]? = some (.con (.dT (dTv r.es)))
  nd : (M.map (·.ref)).Nodup
structure MOk (M : List Row) (B : Nat) : Prop where
  nd : (M.map (·.key)).Nodup
  keys : ∀ r ∈ M, r.key ∈ keys5
  same : ∀ r ∈ M, Same r.l r.es
  len : ∀ r ∈ M, r.l.length ≤ B
  ok : ∀ r ∈ M, ∀ v ∈ r.l, okS v.1 ∧ okV v.2
  ne : ∀ r ∈ M, r.l ≠ []
structure IOk (I : Ints) : Prop where
  nd : (I.map (·.1)).Nodup
  keys : ∀ e ∈ I, e.1 ∈ keys5
  ok : ∀ e ∈ I, InOk e.2
theorem nodup_len {α : Type} [DecidableEq α] : ∀ (l m : List α), l.Nodup → (∀ x ∈ l, x ∈ m) → l.length ≤ m.length
  | [], _, _, _ => Nat.zero_le _
  | a :: l, m, nd, h => by
    rw [List.nodup_cons] at nd
    have ha := h a List.mem_cons_self
    have := nodup_len l (m.erase a) nd.2 fun x hx => (List.mem_erase_of_ne (fun z => nd.1 (by rw [← z]; exact hx))).mpr (h x (List.mem_cons_of_mem _ hx))
    rw [List.length_erase_of_mem ha] at this
    have := List.length_pos_of_mem ha
    simp only [List.length_cons]; omega
theorem uniq_by {α β : Type} (f : α → β) : ∀ {M : List α}, (M.map f).Nodup → ∀ {a b : α}, a ∈ M → b ∈ M → f a = f b → a = b
  | [], _, a, b, ha, _, _ => by simp at ha
  | x :: M, nd, a, b, ha, hb, e => by
    rw [List.map_cons, List.nodup_cons] at nd
    rcases List.mem_cons.mp ha with h1 | h1
    · rcases List.mem_cons.mp hb with h2 | h2
      · rw [h1, h2]
      · exact absurd (List.mem_map.mpr ⟨b, h2, by rw [← e, h1]⟩) nd.1
    · rcases List.mem_cons.mp hb with h2 | h2
      · exact absurd (List.mem_map.mpr ⟨a, h1, by rw [e, h2]⟩) nd.1
      · exact uniq_by f nd.2 h1 h2 e
theorem len5 {l : List Str} (nd : l.Nodup) (h : ∀ k ∈ l, k ∈ keys5) : l.length ≤ 5 := nodup_len l keys5 nd h
theorem MOk.len5 {M : List Row} {B : Nat} (h : MOk M B) : M.length ≤ 5 := by
  have := Tb.len5 h.nd fun k hk => by
    obtain ⟨r, hr, rfl⟩ := List.mem_map.mp hk
    exact h.keys r hr
  simpa using this
theorem IOk.len5 {I : Ints} (h : IOk I) : I.length ≤ 5 := by
  have := Tb.len5 h.nd fun k hk => by
    obtain ⟨r, hr, rfl⟩ := List.mem_map.mp hk
    exact h.keys r hr
  simpa using this
/-- a version put under a key -/
def mput (M : List Row) (k : Str) (ref : Nat) (s : St) (v : Vl) : List Row :=
  if k ∈ M.map (·.key) then M.map fun r => if r.key = k then { r with l := putL r.l s v, es := dput r.es s v } else r
  else M ++ [⟨k, ref, putL [] s v, dput [] s v⟩]
theorem prR_keys (M : List Row) : (prR M).map (·.1) = M.map (·.key) := by unfold prR; rw [List.map_map]; rfl
theorem lwR_keys (M : List Row) : (lwR M).map (·.1) = M.map (·.key) := by unfold lwR; rw [List.map_map]; rfl
theorem row_uniq {M : List Row} (nd : (M.map (·.key)).Nodup) {r q : Row} (hr : r ∈ M) (hq : q ∈ M) (e : r.key = q.key) : r = q := by
  exact uniq_by (·.key) nd hr hq e
theorem prR_look {M : List Row} (nd : (M.map (·.key)).Nodup) {r : Row} (hr : r ∈ M) : look (prR M) r.key = some r.l := look_of (by rw [prR_keys]; exact nd) (List.mem_map.mpr ⟨r, hr, rfl⟩)
theorem lwR_look {M : List Row} (nd : (M.map (·.key)).Nodup) {r : Row} (hr : r ∈ M) : look (lwR M) r.key = some r.ref := look_of (by rw [lwR_keys]; exact nd) (List.mem_map.mpr ⟨r, hr, rfl⟩)
theorem prR_none {M : List Row} {k : Str} (h : k ∉ M.map (·.key)) : look (prR M) k = none := look_none.mpr (by rw [prR_keys]; exact h)
theorem lwR_none {M : List Row} {k : Str} (h : k ∉ M.map (·.key)) : look (lwR M) k = none := look_none.mpr (by rw [lwR_keys]; exact h)
theorem mput_prR {M : List Row} {B : Nat} (ok : MOk M B) (k : Str) (ref : Nat) (s : St) (v : Vl) : prR (mput M k ref s v) = dput (prR M) k (putL (vers (prR M) k) s v) := by
  unfold mput
  by_cases c : k ∈ M.map (·.key)
  · rw [if_pos c]
    obtain ⟨r, hr, rfl⟩ := List.mem_map.mp c
    have e := prR_look ok.nd hr
    unfold vers dput
    rw [e]
    simp only [Option.isSome_some, if_true, Option.getD_some]
    unfold prR
    rw [List.map_map, List.map_map]
    refine List.map_congr_left fun q hq => ?_
    by_cases h : q.key = r.key
    · have := row_uniq ok.nd hq hr h
      subst this
      simp
    · simp [h]
  · rw [if_neg c]
    have e := prR_none c
    unfold vers dput
    rw [e]
    simp [prR]
theorem mput_ok {M : List Row} {B : Nat} (ok : MOk M B) (k : Str) (hk : k ∈ keys5) (ref : Nat) (s : St) (v : Vl) (hs : okS s) (hv : okV v) : MOk (mput M k ref s v) (B + 1) := by
  have hput : ∀ l : List Ver, (∀ e ∈ l, okS e.1 ∧ okV e.2) → ∀ e ∈ putL l s v, okS e.1 ∧ okV e.2 := fun l hl e he => by
    rcases mem_put.mp he with h | h
    · exact hl e h.1
    · subst h; exact ⟨hs, hv⟩
  have pne : ∀ l : List Ver, putL l s v ≠ [] := fun l z => by
    have : (s, v) ∈ putL l s v := mem_put.mpr (.inr rfl)
    rw [z] at this; simp at this
  unfold mput
  by_cases c : k ∈ M.map (·.key)
  · rw [if_pos c]
    refine ⟨?_, fun r hr => ?_, fun r hr => ?_, fun r hr => ?_, fun r hr => ?_, fun r hr => ?_⟩
    · rw [List.map_map]
      have : ((fun r : Row => r.key) ∘ fun r : Row => if r.key = k then { r with l := putL r.l s v, es := dput r.es s v } else r) = fun r : Row => r.key := by
        funext r; simp only [Function.comp]; split <;> rfl
      rw [this]; exact ok.nd
    all_goals
      obtain ⟨q, hq, rfl⟩ := List.mem_map.mp hr
      by_cases h : q.key = k
      · rw [if_pos h]
        first
          | exact ok.keys q hq
          | exact (ok.same q hq).put s v
          | exact Nat.le_trans len_put (Nat.succ_le_succ (ok.len q hq))
          | exact hput _ (ok.ok q hq)
          | exact pne _
      · rw [if_neg h]
        first
          | exact ok.keys q hq
          | exact ok.same q hq
          | exact Nat.le_succ_of_le (ok.len q hq)
          | exact ok.ok q hq
          | exact ok.ne q hq
  · rw [if_neg c]
    refine ⟨?_, fun r hr => ?_, fun r hr => ?_, fun r hr => ?_, fun r hr => ?_, fun r hr => ?_⟩
    · rw [List.map_append, List.nodup_append]
      refine ⟨ok.nd, by simp, fun a ha b hb => ?_⟩
      simp at hb; subst hb
      intro z; subst z; exact c ha
    all_goals
      rcases List.mem_append.mp hr with h | h
      · first
          | exact ok.keys r h
          | exact ok.same r h
          | exact Nat.le_succ_of_le (ok.len r h)
          | exact ok.ok r h
          | exact ok.ne r h
      · simp at h; subst h
        first
          | exact hk
          | exact Same.nil.put s v
          | exact Nat.le_trans len_put (by simp)
          | exact hput [] (fun e he => by simp at he)
          | exact pne _
theorem mput_keys (M : List Row) (k : Str) (ref : Nat) (s : St) (v : Vl) : ∀ q ∈ (mput M k ref s v).map (·.key), q ∈ M.map (·.key) ∨ q = k := by
  intro q hq
  unfold mput at hq
  split at hq
  · rw [List.map_map] at hq
    obtain ⟨r, hr, rfl⟩ := List.mem_map.mp hq
    refine .inl (List.mem_map.mpr ⟨r, hr, ?_⟩)
    simp only [Function.comp]; split <;> rfl
  · rw [List.map_append] at hq
    rcases List.mem_append.mp hq with h | h
    · exact .inl h
    · exact .inr (by simpa using h)
theorem Law.of {S S' : Store} {m : Nat} {M : List Row} {I : Ints} (h : Law S m M I) (e : ∀ k, m + 5 ≤ k → k < S.length → S'[k]? = S[k]?) : Law S' m M I := by
  have at_ : ∀ k u, m + 5 ≤ k → S[k]? = some u → S'[k]? = some u := fun k u hk hu => by rw [e k hk (List.getElem?_eq_some_iff.mp hu).1]; exact hu
  exact ⟨at_ _ _ (by omega) h.w, at_ _ _ (by omega) h.j, h.lo, fun r hr => at_ _ _ (by have := h.lo r hr; omega) (h.k r hr), h.nd⟩
theorem Law.setI {S : Store} {m : Nat} {M : List Row} {I : Ints} (h : Law S m M I) (I' : Ints) : Law (S.set (m + 6) (.con (.dK (itD I')))) m M I' := by
  have hl : m + 6 < S.length := (List.getElem?_eq_some_iff.mp h.j).1
  exact ⟨by rw [List.getElem?_set_ne (by omega)]; exact h.w, List.getElem?_set_self hl, h.lo, fun r hr => by rw [List.getElem?_set_ne (by have := h.lo r hr; omega)]; exact h.k r hr, h.nd⟩
theorem dget_lwD (M : List Row) (k : Str) : dget (.dK (lwD M)) (.str k) = some ((look (lwR M) k).map D.ref) := by
  show some (look (lwD M) (Sum.inr k)) = _
  unfold lwD
  rw [look_map inr_inj D.ref]
theorem dput_same {κ β : Type} [DecidableEq κ] {l : List (κ × β)} (nd : (l.map (·.1)).Nodup) {k : κ} {v : β} (h : look l k = some v) : dput l k v = l := by
  unfold dput
  rw [h]
  simp only [Option.isSome_some, if_true]
  conv => rhs; rw [← List.map_id l]
  refine List.map_congr_left fun e he => ?_
  by_cases c : e.1 = k
  · rw [if_pos c]
    have := look_of nd (show (e.1, e.2) ∈ l from he)
    rw [c, h] at this
    cases this
    rfl
  · rw [if_neg c]; rfl
def Low (M : List Row) : Prop := ∀ r ∈ M, ∀ v ∈ r.l, stOk6 v.1
theorem mput_low {M : List Row} (h : Low M) (k : Str) (ref : Nat) (s : St) (v : Vl) (hs : stOk6 s) : Low (mput M k ref s v) := by
  have hput : ∀ l : List Ver, (∀ e ∈ l, stOk6 e.1) → ∀ e ∈ putL l s v, stOk6 e.1 := fun l hl e he => by
    rcases mem_put.mp he with h | h
    · exact hl e h.1
    · subst h; exact hs
  intro r hr
  unfold mput at hr
  split at hr
  · obtain ⟨q, hq, rfl⟩ := List.mem_map.mp hr
    by_cases z : q.key = k
    · rw [if_pos z]; exact hput _ (h q hq)
    · rw [if_neg z]; exact h q hq
  · rcases List.mem_append.mp hr with z | z
    · exact h r z
    · simp at z; subst z; exact hput [] (fun e he => by simp at he)
/-- known = rows.get(key, {}); known[s] = v; rows[key] = known -/
theorem law_put {S : Store} {m : Nat} {M : List Row} {I : Ints} {B : Nat} (h : Law S m M I) (ok : MOk M B) (hm : m + 7 ≤ S.length) (k : Str) (s : St) (v : Vl) :
    ∃ a es o, dget (.dK (lwD M)) (.str k) = some o ∧ o.getD (.ref S.length) = .ref a ∧ m + 7 ≤ a ∧ a ≤ S.length ∧ es.length ≤ B ∧ (S ++ [Cell.con (.dT [])])[a]? = some (.con (.dT (dTv es))) ∧
      setItem' (.dK (lwD M)) (.str k) (.ref a) = some (.dK (lwD (mput M k S.length s v))) ∧
      Law (((S ++ [Cell.con (.dT [])]).set a (.con (.dT (dTv (dput es s v))))).set (m + 5) (.con (.dK (lwD (mput M k S.length s v))))) m (mput M k S.length s v) I := by
  have big : (1000 : Nat) ≤ sizeLine := by decide
  have hl5 := ok.len5
  have hlw : (lwD M).length < sizeLine := by unfold lwD lwR; rw [List.length_map, List.length_map]; omega
  have si : ∀ a : Nat, setItem' (.dK (lwD M)) (.str k) (.ref a) = some (.dK ((dput (lwR M) k a).map fun e => (Sum.inr e.1, D.ref e.2))) := fun a => by
    show (if (lwD M).length < sizeLine then some (D.dK (dput (lwD M) (Sum.inr k) (.ref a))) else none) = _
    rw [if_pos hlw]
    unfold lwD
    rw [dput_map inr_inj D.ref]
  have w5 : ∀ {x : Cell}, (S ++ [x]).length = S.length + 1 := by simp
  by_cases c : k ∈ M.map (·.key)
  · obtain ⟨r, hr, rfl⟩ := List.mem_map.mp c
    have lo := h.lo r hr
    have kr := h.k r hr
    have rl : r.ref < S.length := (List.getElem?_eq_some_iff.mp kr).1
    have e := lwR_look ok.nd hr
    have mp : mput M r.key S.length s v = M.map fun q => if q.key = r.key then { q with l := putL q.l s v, es := dput q.es s v } else q := by unfold mput; rw [if_pos c]
    have lw : lwR (mput M r.key S.length s v) = lwR M := by
      rw [mp]; unfold lwR; rw [List.map_map]
      refine List.map_congr_left fun q _ => ?_
      simp only [Function.comp]; split <;> rfl
    have dp : dput (lwR M) r.key r.ref = lwR M := dput_same (by rw [lwR_keys]; exact ok.nd) e
    refine ⟨r.ref, r.es, some (.ref r.ref), by rw [dget_lwD, e]; rfl, rfl, lo, by omega, by rw [← (ok.same r hr).len]; exact ok.len r hr, by rw [List.getElem?_append_left rl]; exact kr, by rw [si, dp]; unfold lwD; rw [lw], ?_⟩
    have l5 : m + 5 < S.length := by omega
    have lq : ∀ q ∈ mput M r.key S.length s v, ∃ q0 ∈ M, q.ref = q0.ref ∧ q.es = (if q0.key = r.key then dput q0.es s v else q0.es) := fun q hq => by
      rw [mp] at hq
      obtain ⟨q0, h0, rfl⟩ := List.mem_map.mp hq
      exact ⟨q0, h0, by split <;> rfl, by split <;> rfl⟩
    refine ⟨?_, ?_, fun q hq => ?_, fun q hq => ?_, ?_⟩
    · rw [List.getElem?_set_self (by rw [List.length_set, w5]; omega)]
    · rw [List.getElem?_set_ne (by omega), List.getElem?_set_ne (by omega), List.getElem?_append_left (by omega)]; exact h.j
    · obtain ⟨q0, h0, e1, _⟩ := lq q hq
      rw [e1]; exact h.lo q0 h0
    · obtain ⟨q0, h0, e1, e2⟩ := lq q hq
      have lo0 := h.lo q0 h0
      have k0 := h.k q0 h0
      have l0 : q0.ref < S.length := (List.getElem?_eq_some_iff.mp k0).1
      rw [e1, e2, List.getElem?_set_ne (by omega)]
      by_cases z : q0.key = r.key
      · have := row_uniq ok.nd h0 hr z
        subst this
        rw [if_pos rfl, List.getElem?_set_self (by rw [w5]; omega)]
      · rw [if_neg z]
        have ne : r.ref ≠ q0.ref := fun zz => z (by rw [uniq_by (·.ref) h.nd h0 hr zz.symm])
        rw [List.getElem?_set_ne ne, List.getElem?_append_left l0]; exact k0
    · rw [mp, List.map_map]
      have : ((fun r : Row => r.ref) ∘ fun q : Row => if q.key = r.key then { q with l := putL q.l s v, es := dput q.es s v } else q) = fun r : Row => r.ref := by
        funext q; simp only [Function.comp]; split <;> rfl
      rw [this]; exact h.nd
  · have e := lwR_none c
    have mp : mput M k S.length s v = M ++ [⟨k, S.length, putL [] s v, dput [] s v⟩] := by unfold mput; rw [if_neg c]
    have dp : dput (lwR M) k S.length = lwR (mput M k S.length s v) := by
      unfold dput; rw [e, mp]; simp [lwR]
    have l5 : m + 5 < S.length := by omega
    refine ⟨S.length, [], none, by rw [dget_lwD, e]; rfl, rfl, hm, Nat.le_refl _, by simp, by rw [List.getElem?_append_right (Nat.le_refl _)]; simp [dTv], by rw [si, dp]; rfl, ?_⟩
    refine ⟨?_, ?_, fun q hq => ?_, fun q hq => ?_, ?_⟩
    · rw [List.getElem?_set_self (by rw [List.length_set, w5]; omega)]
    · rw [List.getElem?_set_ne (by omega), List.getElem?_set_ne (by omega), List.getElem?_append_left (by omega)]; exact h.j
    · rw [mp] at hq
      rcases List.mem_append.mp hq with z | z
      · exact h.lo q z
      · simp at z; subst z; exact hm
    · rw [mp] at hq
      rcases List.mem_append.mp hq with z | z
      · have lo0 := h.lo q z
        have k0 := h.k q z
        have l0 : q.ref < S.length := (List.getElem?_eq_some_iff.mp k0).1
        rw [List.getElem?_set_ne (by omega), List.getElem?_set_ne (by omega), List.getElem?_append_left l0]; exact k0
      · simp at z; subst z
        rw [List.getElem?_set_ne (show m + 5 ≠ S.length by omega), List.getElem?_set_self (by rw [w5]; exact Nat.lt_succ_self _)]
    · rw [mp, List.map_append, List.nodup_append]
      refine ⟨h.nd, by simp, fun a ha b hb => ?_⟩
      simp at hb; subst hb
      obtain ⟨q, hq, rfl⟩ := List.mem_map.mp ha
      have l0 : q.ref < S.length := (List.getElem?_eq_some_iff.mp (h.k q hq)).1
      omega
theorem init_ok {T : Prog} (A : TabT T) {n : Nat} {S : Store} : runF T (n + 1) ("Table", some "__init__") [.ref S.length] (S ++ [.ins "Table" []]) = some (.non, S ++ [.ins "Table" (tF S.length 0), .con (.dK []), .con (.dK []), .con (.dT []), .con (.dK [])]) := by
  rw [run_def A.a_Table_init _ _ rfl]
  show (evSs (Z.run T n) b_Table_init [.fz (.ref S.length)] (S ++ [.ins "Table" []])).bind outR = _
  have ge : ∀ (l : List Cell) (c : Cell), (S ++ c :: l)[S.length]? = some c := fun l c => by rw [List.getElem?_append_right (Nat.le_refl _)]; simp
  have se : ∀ (l : List Cell) (c d : Cell), (S ++ c :: l).set S.length d = S ++ d :: l := fun l c d => by rw [List.set_append_right _ _ (Nat.le_refl _)]; simp
  have f1 := A.f_rows
  have f2 := A.f_intents
  have f3 := A.f_records
  have f4 := A.f_thresholds
  have f5 := A.f_bound
  have p1 : ∀ a : D, setF.fput ([] : List (Str × D)) "rows" a = [(("rows" : Str), a)] := fun a => rfl
  have p2 : ∀ a b : D, setF.fput [(("rows" : Str), a)] "intents" b = [(("rows" : Str), a), (("intents" : Str), b)] := fun a b => rfl
  have p3 : ∀ a b c : D, setF.fput [(("rows" : Str), a), (("intents" : Str), b)] "records" c = [(("rows" : Str), a), (("intents" : Str), b), (("records" : Str), c)] := fun a b c => rfl
  have p4 : ∀ a b c d : D, setF.fput [(("rows" : Str), a), (("intents" : Str), b), (("records" : Str), c)] "thresholds" d = [(("rows" : Str), a), (("intents" : Str), b), (("records" : Str), c), (("thresholds" : Str), d)] := fun a b c d => rfl
  have p5 : ∀ a b c d e : D, setF.fput [(("rows" : Str), a), (("intents" : Str), b), (("records" : Str), c), (("thresholds" : Str), d)] "bound" e = [(("rows" : Str), a), (("intents" : Str), b), (("records" : Str), c), (("thresholds" : Str), d), (("bound" : Str), e)] := fun a b c d e => rfl
  simp -implicitDefEqProofs [b_Table_init, setF, newRef, ge, se, f1, f2, f3, f4, f5, p1, p2, p3, p4, p5, Cst.d]
  rfl
end Tb

set_option Elab.async false
set_option linter.all false
set_option maxRecDepth 100000
set_option maxHeartbeats 2000000
namespace Tb
open PySem PySem.Spec PyProof.Rows L2 Z
structure Al (S : Store) (st c m : Nat) (M : List Row) (I : Ints) : Prop where
  rd : Rd S st c
  lt1 : st < m
  lt2 : c < m
  len : m + 7 ≤ S.length
  tab : Tab S m (prR M) I [] [] 0
  law : Law S m M I
theorem Rd.of {S S' : Store} {st c : Nat} (h : Rd S st c) (e1 : S'[st]? = S[st]?) (e2 : S'[c]? = S[c]?) : Rd S' st c := by
  obtain ⟨pos, cs, R⟩ := h
  exact ⟨pos, cs, by rw [e1]; exact R.at_, by rw [e2]; exact R.row, R.ne, R.pos0, R.len, R.nn⟩
theorem Al.wnt {S S' : Store} {st c m : Nat} {M : List Row} {I : Ints} (h : Al S st c m M I) (w : Wnt st c S S') : Al S' st c m M I := by
  obtain ⟨w1, w2, w3⟩ := w
  have l1 := h.lt1
  have l2 := h.lt2
  exact ⟨w1, l1, l2, by rw [w2]; exact h.len, h.tab.of fun k h1 h2 => w3 k (by omega) (by omega), h.law.of fun k h1 h2 => w3 k (by omega) (by omega)⟩
structure In0 (i : In) : Prop where
  ep : i.ep < 3
  num : i.num ≤ 3
  st : stOk6 i.st
  len : i.rows.length ≤ 3
  seq : ∀ r ∈ i.rows, r.1 ≤ 6
section
variable {T : Prog} {n : Nat} {S : Store} {st c m : Nat} {M : List Row} {I : Ints} {B : Nat}
abbrev E9 (st m : Nat) (x2 x5 x6 x7 x8 : Z.Slot) : Env' := [.fz (.ref st), .fz (.ref m), x2, .fz (.ref (m + 5)), .fz (.ref (m + 6)), x5, x6, x7, x8]
theorem turn_ok (A : TabT T) (h : Al S st c m M I) (ok : MOk M B) (lo : Low M) (hB : B ≤ 60) (k : Str) (hk : k ∈ keys5) (x5 x6 x7 x8 : Z.Slot) :
    ∃ S' M' y6 y7 y8, evSs (Z.run T (n + 4)) law_table2b0b (E9 st m (.fz (.str k)) x5 x6 x7 x8) S = some (.nxt (E9 st m (.fz (.str k)) x5 y6 y7 y8) S') ∧ Al S' st c m M' I ∧ MOk M' (B + 1) ∧ Low M' ∧ ∀ q ∈ M'.map (·.key), q ∈ M.map (·.key) ∨ q = k := by
  obtain ⟨s, S1, o1, e1, w1⟩ := stamp (n := n + 1) A h.rd
  obtain ⟨v, S2, o2, e2, w2⟩ := pick (n := n + 2) A w1.1 vD [none, some "x", some "y", some "z"] (by simp) (by simp)
  have h2 := h.wnt (w1.trans w2)
  have l1 := h.lt1
  have l2 := h.lt2
  have l5 := ok.len5
  have vl : (vers (prR M) k).length ≤ B := by
    unfold vers
    cases z : look (prR M) k with
    | none => simp
    | some l =>
      obtain ⟨r, hr, e⟩ := List.mem_map.mp (look_mem z)
      have : l = r.l := (Prod.mk.inj e).2.symm
      rw [this]; exact ok.len r hr
  have e3 := apply_version (n := n + 1) A h2.tab k s v (by omega) (by unfold prR; rw [List.length_map]; omega)
  generalize hS3 : S2.set (m + 1) (.con (.dK (rwD (dput (prR M) k (putL (vers (prR M) k) s v))))) = S3 at e3
  have t3 : Tab S3 m (dput (prR M) k (putL (vers (prR M) k) s v)) I [] [] 0 := by rw [← hS3]; exact h2.tab.setR _
  have L3 : S3.length = S2.length := by rw [← hS3, List.length_set]
  have len2' := h2.len
  have g3 : ∀ j, j ≠ m + 1 → S3[j]? = S2[j]? := fun j hj => by rw [← hS3, List.getElem?_set_ne (Ne.symm hj)]
  have w3 : Law S3 m M I := h2.law.of fun j h1 h2 => g3 j (by omega)
  have r3 : Rd S3 st c := h2.rd.of (g3 _ (by omega)) (g3 _ (by omega))
  obtain ⟨a, es, o, d1, d2, d3, d4, d5, d6, d7, d8⟩ := law_put w3 ok (by omega) k s v
  have p2 : evS (Z.run T (n + 4)) law_table2b0b0 (E9 st m (.fz (.str k)) x5 x6 x7 x8) S = some (.nxt (E9 st m (.fz (.str k)) x5 x6 (.fz (sD s)) (.fz (vD v))) S2) := by
    simp only [List.map_cons, List.map_nil, vD_none, vD_some] at e2
    unfold law_table2b0b0
    simp -implicitDefEqProofs [e1, e2, Cst.d, big5]
  have p3 : evS (Z.run T (n + 4)) law_table2b0b1 (E9 st m (.fz (.str k)) x5 x6 (.fz (sD s)) (.fz (vD v))) S2 = some (.nxt (E9 st m (.fz (.str k)) x5 x6 (.fz (sD s)) (.fz (vD v))) S3) := by
    unfold law_table2b0b1
    simp -implicitDefEqProofs [Cst.d, big5, h2.tab.t, e3]
  have a4 : (S3 ++ [Cell.con (.dT [])])[m + 5]? = some (.con (.dK (lwD M))) := by rw [List.getElem?_append_left (by omega)]; exact w3.w
  have p4 : evS (Z.run T (n + 4)) law_table2b0b2 (E9 st m (.fz (.str k)) x5 x6 (.fz (sD s)) (.fz (vD v))) S3 = some (.nxt (E9 st m (.fz (.str k)) x5 (.fz (.ref a)) (.fz (sD s)) (.fz (vD v))) (S3 ++ [Cell.con (.dT [])])) := by
    unfold law_table2b0b2
    simp -implicitDefEqProofs [hOf, w3.w, isDct, newRef, a4, d1, d2, bindT]
  have p5 : evS (Z.run T (n + 4)) law_table2b0b3 (E9 st m (.fz (.str k)) x5 (.fz (.ref a)) (.fz (sD s)) (.fz (vD v))) (S3 ++ [Cell.con (.dT [])]) = some (.nxt (E9 st m (.fz (.str k)) x5 (.fz (.ref a)) (.fz (sD s)) (.fz (vD v))) ((S3 ++ [Cell.con (.dT [])]).set a (.con (.dT (dTv (dput es s v)))))) := by
    have pd := put_dTv es s v (by omega)
    unfold law_table2b0b3
    simp -implicitDefEqProofs [hOf, d6, pd, putC, setC]
  have a5 : ((S3 ++ [Cell.con (.dT [])]).set a (.con (.dT (dTv (dput es s v)))))[m + 5]? = some (.con (.dK (lwD M))) := by rw [List.getElem?_set_ne (by omega)]; exact a4
  have p6 : evS (Z.run T (n + 4)) law_table2b0b4 (E9 st m (.fz (.str k)) x5 (.fz (.ref a)) (.fz (sD s)) (.fz (vD v))) ((S3 ++ [Cell.con (.dT [])]).set a (.con (.dT (dTv (dput es s v))))) = some (.nxt (E9 st m (.fz (.str k)) x5 (.fz (.ref a)) (.fz (sD s)) (.fz (vD v))) (((S3 ++ [Cell.con (.dT [])]).set a (.con (.dT (dTv (dput es s v))))).set (m + 5) (.con (.dK (lwD (mput M k S3.length s v)))))) := by
    unfold law_table2b0b4
    simp -implicitDefEqProofs [hOf, a5, d7, putC, setC]
  have hv : okV v := by
    simp at o2
    rcases o2 with rfl | rfl | rfl | rfl <;> simp [okV]
  refine ⟨_, mput M k S3.length s v, .fz (.ref a), .fz (sD s), .fz (vD v), by
    show evSs _ (.cons law_table2b0b0 (.cons law_table2b0b1 (.cons law_table2b0b2 (.cons law_table2b0b3 (.cons law_table2b0b4 .nil))))) _ _ = _
    rw [seq1 p2, seq1 p3, seq1 p4, seq1 p5, seq1 p6]
    simp only [x_evSs_nil], ⟨?_, l1, l2, ?_, ?_, d8⟩, mput_ok ok k hk _ s v o1.ok hv, mput_low lo k _ s v o1, mput_keys M k _ s v⟩
  · refine r3.of ?_ ?_
    · rw [List.getElem?_set_ne (by omega), List.getElem?_set_ne (by omega), List.getElem?_append_left (by omega)]
    · rw [List.getElem?_set_ne (by omega), List.getElem?_set_ne (by omega), List.getElem?_append_left (by omega)]
  · rw [List.length_set, List.length_set, List.length_append]; omega
  · rw [mput_prR ok]
    exact t3.of fun j h1 h2 => by rw [List.getElem?_set_ne (by omega), List.getElem?_set_ne (by omega), List.getElem?_append_left (by omega)]
theorem inner_ok (A : TabT T) (h : Al S st c m M I) (ok : MOk M B) (lo : Low M) (hB : B ≤ 20) (k : Str) (hk : k ∈ keys5) (x5 x6 x7 x8 : Z.Slot) :
    ∃ S' M' y5 y6 y7 y8, evS (Z.run T (n + 4)) law_table2b0 (E9 st m (.fz (.str k)) x5 x6 x7 x8) S = some (.nxt (E9 st m (.fz (.str k)) y5 y6 y7 y8) S') ∧ Al S' st c m M' I ∧ MOk M' (B + 3) ∧ Low M' ∧ ∀ q ∈ M'.map (·.key), q ∈ M.map (·.key) ∨ q = k := by
  obtain ⟨cnt, S1, e1, v0, v1, w1⟩ := take (n := n + 3) A h.rd 4 (by decide) (by decide)
  have hi : evI (Z.run T (n + 4)) (.rng (.call "_law_take" (.cons (.var 0) (.cons (.cst (.int 4)) .nil)))) (E9 st m (.fz (.str k)) x5 x6 x7 x8) S = some (.val .non, (List.range cnt.toNat).map (fun j : Nat => D.int ((j : Nat) : Int)), S1) := by
    refine rng_ev ?_ (by omega)
    simp -implicitDefEqProofs [Cst.d, e1]
  obtain ⟨ρ', S', e2, M', y5, y6, y7, y8, rfl, h2, ok2, lo2, ks⟩ := for_map (G := Z.run T (n + 4)) (t := .nm 5) (b := law_table2b0b) (fun j : Nat => D.int ((j : Nat) : Int)) (List.range cnt.toNat)
    (fun p ρ S' => ∃ M' y5 y6 y7 y8, ρ = E9 st m (.fz (.str k)) y5 y6 y7 y8 ∧ Al S' st c m M' I ∧ MOk M' (B + p.length) ∧ Low M' ∧ ∀ q ∈ M'.map (·.key), q ∈ M.map (·.key) ∨ q = k)
    (fun n z => by cases z) hi ⟨M, x5, x6, x7, x8, rfl, h.wnt w1, ok, lo, fun q hq => .inl hq⟩ (fun p x q hq ρ S2 hP => by
      obtain ⟨M1, y5, y6, y7, y8, rfl, h1, ok1, lo1, ks1⟩ := hP
      have pl : p.length ≤ 3 := by
        have := congrArg List.length hq
        simp at this; omega
      obtain ⟨S3, M3, z6, z7, z8, e3, h3, ok3, lo3, ks3⟩ := turn_ok (n := n) A h1 ok1 lo1 (by omega) k hk (.fz (.int x)) y6 y7 y8
      refine ⟨_, E9 st m (.fz (.str k)) (.fz (.int x)) z6 z7 z8, S3, rfl, e3, M3, _, _, _, _, rfl, h3, ?_, lo3, fun q hq => ?_⟩
      · rw [List.length_append, List.length_singleton, ← Nat.add_assoc]; exact ok3
      · rcases ks3 q hq with z | z
        · exact ks1 q z
        · exact .inr z)
  refine ⟨S', M', y5, y6, y7, y8, e2, h2, ?_, lo2, ks⟩
  have : (List.range cnt.toNat).length ≤ 3 := by rw [List.length_range]; omega
  exact ⟨ok2.nd, ok2.keys, ok2.same, fun r hr => Nat.le_trans (ok2.len r hr) (by omega), ok2.ok, ok2.ne⟩
theorem put_intent (A : TabT T) (h : Al S st c m M I) (io : IOk I) (k : Str) (hk : k ∈ keys5) (hn : k ∉ I.map (·.1)) (i0 : ∀ e ∈ I, In0 e.2) (x5 x6 x7 x8 : Z.Slot) :
    ∃ S' I', evS (Z.run T (n + 5)) law_table2b1 (E9 st m (.fz (.str k)) x5 x6 x7 x8) S = some (.nxt (E9 st m (.fz (.str k)) x5 x6 x7 x8) S') ∧ Al S' st c m M I' ∧ IOk I' ∧ (∀ e ∈ I', In0 e.2) ∧ ∀ q ∈ I'.map (·.1), q ∈ I.map (·.1) ∨ q = k := by
  have l1 := h.lt1
  have l2 := h.lt2
  have l5 := io.len5
  obtain ⟨v, S1, e1, v0, v1, w1⟩ := take (n := n + 4) A h.rd 3 (by decide) (by decide)
  have h1 := h.wnt w1
  by_cases z : v = 0
  case neg =>
    refine ⟨S1, I, ?_, h1, io, i0, fun q hq => .inl hq⟩
    unfold law_table2b1
    simp -implicitDefEqProofs [hOf, e1, Cst.d, eq_ii, z]
  subst z
  obtain ⟨w, S2, e2, u0, u1, w2⟩ := take (n := n + 4) A h1.rd 3 (by decide) (by decide)
  obtain ⟨i, S3, oi, en, ep, es, el, er, e3, w3⟩ := intent (n := n + 1) A w2.1 (1 + w) (by unfold okI; omega)
  have h3 := h1.wnt (w2.trans w3)
  have si := set_itD I k i (by omega)
  generalize hS4 : S3.set (m + 6) (.con (.dK (itD (dput I k i)))) = S4
  have len3 := h3.len
  have L4 : S4.length = S3.length := by rw [← hS4, List.length_set]
  have g4 : ∀ j, j ≠ m + 6 → S4[j]? = S3[j]? := fun j hj => by rw [← hS4, List.getElem?_set_ne (Ne.symm hj)]
  have t4 : Tab S4 m (prR M) I [] [] 0 := h3.tab.of fun j a b => g4 j (by omega)
  have w4 : Law S4 m M (dput I k i) := by rw [← hS4]; exact h3.law.setI _
  have e5 := apply_intent (n := n + 4) A t4 k i (by omega)
  have dr : ddrop I k = I := by
    unfold ddrop
    rw [List.filter_eq_self]
    intro a ha
    simp
    exact fun zz => hn (List.mem_map.mpr ⟨a, ha, zz⟩)
  rw [dr] at e5
  have dg : dget (.dK (itD (dput I k i))) (.str k) = some (some (inD i)) := by rw [dget_itD, look_dput, if_pos rfl]; rfl
  refine ⟨S4.set (m + 2) (.con (.dK (itD (dput I k i)))), dput I k i, ?_, ⟨?_, l1, l2, by rw [List.length_set]; omega, t4.setI _, w4.of fun j a b => by rw [List.getElem?_set_ne (by omega)]⟩, ⟨dput_nodup io.nd k i, fun e he => ?_, fun e he => ?_⟩, fun e he => ?_, fun q hq => ?_⟩
  · have idx : idxD (.dK (itD (dput I k i))) (.str k) = some (inD i) := by
      show (dget (.dK (itD (dput I k i))) (.str k)).join = _
      rw [dg]; rfl
    unfold law_table2b1
    simp -implicitDefEqProofs [hOf, e1, Cst.d, eq_ii, e2, e3, h3.law.j, si, putC, setC, hS4, t4.t, w4.j, idx, big5, e5]
  · exact h3.rd.of (by rw [List.getElem?_set_ne (by omega), g4 _ (by omega)]) (by rw [List.getElem?_set_ne (by omega), g4 _ (by omega)])
  · rcases mem_dput.mp he with q | q
    · exact io.keys e q.1
    · subst q; exact hk
  · rcases mem_dput.mp he with q | q
    · exact io.ok e q.1
    · subst q; exact oi
  · rcases mem_dput.mp he with q | q
    · exact i0 e q.1
    · subst q; exact ⟨ep, by dsimp only; omega, es, el, er⟩
  · rw [dput_keys] at hq
    split at hq
    · exact .inl hq
    · rcases List.mem_append.mp hq with z | z
      · exact .inl z
      · exact .inr (by simpa using z)
theorem table_ok (A : TabT T) (hr : Rd S st c) (h1 : st < S.length) (h2 : c < S.length) :
    ∃ S' M I, runF T (n + 6) ("_law_table", none) [.ref st] S = some (.tup [.ref S.length, .ref (S.length + 5), .ref (S.length + 6)], S') ∧ Al S' st c S.length M I ∧ MOk M 15 ∧ Low M ∧ IOk I ∧ ∀ e ∈ I, In0 e.2 := by
  have e0 := init_ok (n := n + 4) (S := S) A
  generalize hS1 : S ++ [Cell.ins "Table" (tF S.length 0), .con (.dK []), .con (.dK []), .con (.dT []), .con (.dK [])] = S1 at e0
  have L1 : S1.length = S.length + 5 := by rw [← hS1]; simp
  have q0 : evS (Z.run T (n + 5)) law_table0 [.fz (.ref st), .un, .un, .un, .un, .un, .un, .un, .un] S = some (.nxt [.fz (.ref st), .fz (.ref S.length), .un, .un, .un, .un, .un, .un, .un] S1) := by
    unfold law_table0
    simp -implicitDefEqProofs [e0, bindT]
  have q1 : evS (Z.run T (n + 5)) law_table1 [.fz (.ref st), .fz (.ref S.length), .un, .un, .un, .un, .un, .un, .un] S1 = some (.nxt (E9 st S.length .un .un .un .un .un) (S1 ++ [Cell.con (.dK []), .con (.dK [])])) := by
    unfold law_table1
    simp -implicitDefEqProofs [newRef, L1]
  have gS : ∀ j, j < S.length → (S1 ++ [Cell.con (.dK []), .con (.dK [])])[j]? = S[j]? := fun j hj => by rw [List.getElem?_append_left (by omega), ← hS1, List.getElem?_append_left hj]
  have gN : ∀ j, (S1 ++ [Cell.con (.dK []), .con (.dK [])])[S.length + j]? = ([Cell.ins "Table" (tF S.length 0), .con (.dK []), .con (.dK []), .con (.dT []), .con (.dK []), .con (.dK []), .con (.dK [])] : List Cell)[j]? := fun j => by
    rw [← hS1, List.append_assoc, List.getElem?_append_right (by omega)]
    simp
  have al : Al (S1 ++ [Cell.con (.dK []), .con (.dK [])]) st c S.length [] [] := ⟨hr.of (gS _ h1) (gS _ h2), h1, h2, by simp [L1], ⟨gN 0, gN 1, gN 2, gN 3, gN 4⟩, ⟨gN 5, gN 6, fun r hr => by simp at hr, fun r hr => by simp at hr, .nil⟩⟩
  have hi : evI (Z.run T (n + 5)) (.seq (.list (.cons (.cst (.str "a")) (.cons (.cst (.str "b")) (.cons (.cst (.str "c")) (.cons (.cst (.str "ca")) (.cons (.cst (.str "z")) .nil))))))) (E9 st S.length .un .un .un .un .un) (S1 ++ [Cell.con (.dK []), .con (.dK [])]) = some (.val (.lst (keys5.map D.str)), keys5.map D.str, S1 ++ [Cell.con (.dK []), .con (.dK [])]) := by
    simp -implicitDefEqProofs [hOf, Cst.d, big5, keys5]
  obtain ⟨ρ', S', e2, M, I, y2, y5, y6, y7, y8, rfl, al2, ok2, lo2, io2, i02, mk, ik⟩ := for_map (G := Z.run T (n + 5)) (t := .nm 2) (b := law_table2b) D.str keys5
    (fun p ρ S' => ∃ M I y2 y5 y6 y7 y8, ρ = E9 st S.length y2 y5 y6 y7 y8 ∧ Al S' st c S.length M I ∧ MOk M (3 * p.length) ∧ Low M ∧ IOk I ∧ (∀ e ∈ I, In0 e.2) ∧ (∀ q ∈ M.map (·.key), q ∈ p) ∧ ∀ q ∈ I.map (·.1), q ∈ p)
    (fun n z => by cases z) hi ⟨[], [], .un, .un, .un, .un, .un, rfl, al, ⟨.nil, fun r hr => by simp at hr, fun r hr => by simp at hr, fun r hr => by simp at hr, fun r hr => by simp at hr, fun r hr => by simp at hr⟩, fun r hr => by simp at hr, ⟨.nil, fun r hr => by simp at hr, fun r hr => by simp at hr⟩, fun r hr => by simp at hr, fun r hr => by simp at hr, fun r hr => by simp at hr⟩ (fun p x q hq ρ S2 hP => by
      obtain ⟨M, I, y2, y5, y6, y7, y8, rfl, al, ok, lo, io, i0, mk, ik⟩ := hP
      have hx : x ∈ keys5 := by rw [hq]; simp
      have pl : p.length ≤ 4 := by
        have := congrArg List.length hq
        simp [keys5] at this; omega
      have nd : keys5.Nodup := by decide +kernel
      have np : x ∉ p := by
        rw [hq] at nd
        have := (List.nodup_append.mp nd).2.2
        intro z
        exact this x z x (by simp) rfl
      obtain ⟨S3, M3, z5, z6, z7, z8, e3, al3, ok3, lo3, k3⟩ := inner_ok (n := n + 1) A al ok lo (by omega) x hx y5 y6 y7 y8
      obtain ⟨S4, I4, e4, al4, io4, i04, k4⟩ := put_intent (n := n) A al3 io x hx (fun z => np (ik x z)) i0 z5 z6 z7 z8
      refine ⟨_, E9 st S.length (.fz (.str x)) z5 z6 z7 z8, S4, rfl, ?_, M3, I4, _, _, _, _, _, rfl, al4, ?_, lo3, io4, i04, fun q hq => ?_, fun q hq => ?_⟩
      · show evSs _ (.cons law_table2b0 (.cons law_table2b1 .nil)) (E9 st S.length (.fz (.str x)) y5 y6 y7 y8) _ = _
        rw [seq1 e3, seq1 e4]
        simp only [x_evSs_nil]
      · rw [List.length_append, List.length_singleton, Nat.mul_add]; exact ok3
      · rcases k3 q hq with z | z
        · exact List.mem_append_left _ (mk q z)
        · exact List.mem_append_right _ (by simp [z])
      · rcases k4 q hq with z | z
        · exact List.mem_append_left _ (ik q z)
        · exact List.mem_append_right _ (by simp [z]))
  refine ⟨S', M, I, ?_, al2, ok2, lo2, io2, i02⟩
  rw [run_def A.a__law_table _ S rfl]
  show (evSs (Z.run T (n + 5)) b__law_table [.fz (.ref st), .un, .un, .un, .un, .un, .un, .un, .un] S).bind outR = _
  have q2 : evS (Z.run T (n + 5)) law_table2 (E9 st S.length .un .un .un .un .un) (S1 ++ [Cell.con (.dK []), .con (.dK [])]) = some (.nxt (E9 st S.length y2 y5 y6 y7 y8) S') := e2
  have : b__law_table = .cons law_table0 (.cons law_table1 (.cons law_table2 (.cons law_table3 .nil))) := rfl
  rw [this, seq1 q0, seq1 q1, seq1 q2]
  simp -implicitDefEqProofs [law_table3, len3]
  rfl
end
end Tb

set_option Elab.async false
set_option linter.all false
set_option maxRecDepth 100000
set_option maxHeartbeats 2000000
namespace Tb
open PySem PySem.Spec PyProof.Rows L2 Z
/-! # keys_in, has, greatest, top_of; the table's text -/
def inS (sp : Sp) (k : Str) : Bool := leS sp.1 k && ltS k sp.2
theorem fold_keys {κ β : Type} [DecidableEq κ] : ∀ (l acc : List (κ × β)), (acc.map (·.1)).Nodup → ((l.foldl (fun acc e => dput acc e.1 e.2) acc).map (·.1)).Nodup ∧ ∀ k, k ∈ (l.foldl (fun acc e => dput acc e.1 e.2) acc).map (·.1) ↔ k ∈ acc.map (·.1) ∨ k ∈ l.map (·.1)
  | [], acc, h => ⟨h, fun k => by simp⟩
  | e :: l, acc, h => by
    obtain ⟨h1, h2⟩ := fold_keys l (dput acc e.1 e.2) (dput_nodup h _ _)
    refine ⟨h1, fun k => ?_⟩
    rw [List.foldl_cons, h2 k, dput_keys, List.map_cons, List.mem_cons]
    split
    · rename_i hm
      constructor
      · rintro (h | h)
        · exact .inl h
        · exact .inr (.inr h)
      · rintro (h | h | h)
        · exact .inl h
        · exact .inl (by rw [h]; exact hm)
        · exact .inr h
    · rw [List.mem_append, List.mem_singleton]
      constructor
      · rintro ((h | h) | h)
        · exact .inl h
        · exact .inr (.inl h)
        · exact .inr (.inr h)
      · rintro (h | h | h)
        · exact .inl (.inl h)
        · exact .inl (.inr h)
        · exact .inr h
theorem all_inr : ∀ (l : List Key), (∀ k ∈ l, ∃ x : Str, k = Sum.inr x) → ∃ ks : List Str, l = ks.map Sum.inr
  | [], _ => ⟨[], rfl⟩
  | k :: l, h => by
    obtain ⟨x, rfl⟩ := h k List.mem_cons_self
    obtain ⟨ks, e⟩ := all_inr l fun q hq => h q (List.mem_cons_of_mem _ hq)
    exact ⟨x :: ks, by rw [e]; rfl⟩
theorem strKs_of {β : Type} : ∀ (es : List (Key × β)) (ks : List Str), es.map (·.1) = ks.map Sum.inr → strKs es = some ks
  | [], [], _ => rfl
  | [], _ :: _, h => by simp at h
  | _ :: _, [], h => by simp at h
  | (k, v) :: es, x :: ks, h => by
    rw [List.map_cons, List.map_cons, List.cons.injEq] at h
    obtain ⟨h1, h2⟩ := h
    have h1 : k = Sum.inr x := h1
    subst h1
    show (strKs es).map (x :: ·) = _
    rw [strKs_of es ks h2]; rfl
theorem sortKD_of {es : List (Key × D)} {ks : List Str} (h : es.map (·.1) = ks.map Sum.inr) (hl : ks.length < 64) : sortKD es = some (.lst ((sortT ks).map .str)) := by
  unfold sortKD
  cases es with
  | nil =>
    cases ks with
    | nil => simp [intKs, sortI, sortT]
    | cons _ _ => simp at h
  | cons e es =>
    have s := strKs_of (e :: es) ks h
    cases ks with
    | nil => simp at h
    | cons x ks =>
      have : intKs (e :: es) = none := by
        obtain ⟨k, v⟩ := e
        have h1 : k = Sum.inr x := by simpa using (List.cons.inj h).1
        subst h1; rfl
      rw [this, s]
      simp only
      rw [if_pos hl]
theorem sorted5 (p : Str → Bool) : sortedS (keys5.filter p) = true := by
  unfold keys5
  simp only [List.filter_cons, List.filter_nil]
  cases p "a" <;> cases p "b" <;> cases p "c" <;> cases p "ca" <;> cases p "z" <;> decide +kernel
theorem sort5 {ks : List Str} (nd : ks.Nodup) (p : Str → Bool) (h : ∀ k, k ∈ ks ↔ k ∈ keys5 ∧ p k = true) : sortT ks = keys5.filter p := by
  refine (sortT_eq ?_ (sorted5 p)).symm
  refine (List.perm_ext_iff_of_nodup ((show keys5.Nodup by decide +kernel).filter _) nd).mpr fun k => ?_
  rw [List.mem_filter, h]
structure ROk (R : Rows) (B : Nat) : Prop where
  nd : (R.map (·.1)).Nodup
  keys : ∀ e ∈ R, e.1 ∈ keys5
  asc : ∀ e ∈ R, Asc e.2
  len : ∀ e ∈ R, e.2.length ≤ B
  ok : ∀ e ∈ R, ∀ v ∈ e.2, okS v.1 ∧ okV v.2
theorem MOk.rok {M : List Row} {B : Nat} (h : MOk M B) : ROk (prR M) B := by
  refine ⟨by rw [prR_keys]; exact h.nd, fun e he => ?_, fun e he => ?_, fun e he => ?_, fun e he => ?_⟩
  all_goals
    obtain ⟨r, hr, rfl⟩ := List.mem_map.mp he
    first
      | exact h.keys r hr
      | exact (h.same r hr).asc
      | exact h.len r hr
      | exact h.ok r hr
theorem ROk.len5 {R : Rows} {B : Nat} (h : ROk R B) : R.length ≤ 5 := by
  have := Tb.len5 h.nd fun k hk => by
    obtain ⟨r, hr, rfl⟩ := List.mem_map.mp hk
    exact h.keys r hr
  simpa using this
def keysIn (R : Rows) (I : Ints) (sp : Sp) : List Str := keys5.filter fun k => (decide (k ∈ R.map (·.1)) || decide (k ∈ I.map (·.1))) && inS sp k
section
variable {T : Prog} {n : Nat} {S : Store} {m : Nat} {R : Rows} {I : Ints} {C : List (List Key × D)} {Hh : List (Key × D)} {b : Int} {B : Nat}
theorem has_ok (a_has : T.defs.lookup (("has", none) : Str × Option Str) = some (⟨2, 2, b_has⟩ : Fd)) (sp : Sp) (k : Str) (hs : PyData.strOk sp.1 = true ∧ PyData.strOk sp.2 = true) (hk : PyData.strOk k = true) : runF T (n + 1) ("has", none) [spD sp, .str k] S = some (.bl (inS sp k), S) := by
  rw [run_def a_has _ S rfl]
  show (evSs (Z.run T n) b_has [.fz (spD sp), .fz (.str k)] S).bind outR = _
  have e1 := le_ss sp.1 k hs.1 hk
  have e2 := lt_ss k sp.2 hk hs.2
  unfold inS
  cases h : leS sp.1 k with
  | true => simp -implicitDefEqProofs [b_has, hOf, Cst.d, e1, e2, h]; rfl
  | false => simp -implicitDefEqProofs [b_has, hOf, Cst.d, e1, h]; rfl
theorem rwD_keys (R : Rows) : (rwD R).map (·.1) = (R.map (·.1)).map Sum.inr := by unfold rwD; rw [List.map_map, List.map_map]; rfl
theorem itD_keys (I : Ints) : (itD I).map (·.1) = (I.map (·.1)).map Sum.inr := by unfold itD; rw [List.map_map, List.map_map]; rfl
theorem keys_in_ok (A : TabT T) (a_has : T.defs.lookup (("has", none) : Str × Option Str) = some (⟨2, 2, b_has⟩ : Fd)) (a_k : T.defs.lookup (("Table", some "keys_in") : Str × Option Str) = some (⟨2, 3, b_Table_keys_in⟩ : Fd)) (h : Tab S m R I C Hh b) (ro : ROk R B) (io : IOk I) (sp : Sp) (hs : sp ∈ spans6) :
    runF T (n + 2) ("Table", some "keys_in") [.ref m, spD sp] S = some (.lst ((keysIn R I sp).map .str), S) := by
  have big : (1000 : Nat) ≤ sizeLine := by decide
  have r5 := ro.len5
  have i5 := io.len5
  rw [run_def a_k _ S rfl]
  show (evSs (Z.run T (n + 1)) b_Table_keys_in [.fz (.ref m), .fz (spD sp), .un] S).bind outR = _
  -- the merged dict's keys
  obtain ⟨k1, k2⟩ := fold_keys (rwD R) [] .nil
  obtain ⟨k3, k4⟩ := fold_keys (itD I) ((rwD R).foldl (fun acc e => dput acc e.1 e.2) []) k1
  have mem : ∀ k, k ∈ ((itD I).foldl (fun acc e => dput acc e.1 e.2) ((rwD R).foldl (fun acc e => dput acc e.1 e.2) [])).map (·.1) ↔ k ∈ (R.map (·.1)).map Sum.inr ∨ k ∈ (I.map (·.1)).map Sum.inr := fun k => by
    rw [k4, k2, rwD_keys, itD_keys]; simp
  obtain ⟨ks, eks⟩ := all_inr _ fun k hk => by
    rcases (mem k).mp hk with q | q
    · obtain ⟨x, _, rfl⟩ := List.mem_map.mp q; exact ⟨x, rfl⟩
    · obtain ⟨x, _, rfl⟩ := List.mem_map.mp q; exact ⟨x, rfl⟩
  have ms : mrgD (.dK (rwD R)) (.dK (itD I)) = some (.dK ((itD I).foldl (fun acc e => dput acc e.1 e.2) ((rwD R).foldl (fun acc e => dput acc e.1 e.2) []))) := by
    show (if (rwD R).length + (itD I).length ≤ sizeLine then _ else none) = _
    rw [if_pos (by unfold rwD itD; rw [List.length_map, List.length_map]; omega)]
  generalize (itD I).foldl (fun acc e => dput acc e.1 e.2) ((rwD R).foldl (fun acc e => dput acc e.1 e.2) []) = G at *
  have nd : ks.Nodup := by
    rw [eks] at k3
    exact (List.pairwise_map.mp k3).imp fun {a b} q z => q (by rw [z])
  have mk : ∀ k : Str, k ∈ ks ↔ k ∈ keys5 ∧ (decide (k ∈ R.map (·.1)) || decide (k ∈ I.map (·.1))) = true := fun k => by
    have e : k ∈ ks ↔ (Sum.inr k : Key) ∈ ks.map Sum.inr := ⟨fun h => List.mem_map.mpr ⟨k, h, rfl⟩, fun h => by
      obtain ⟨x, hx, z⟩ := List.mem_map.mp h
      cases z; exact hx⟩
    have e2 : ∀ l : List Str, (Sum.inr k : Key) ∈ l.map Sum.inr ↔ k ∈ l := fun l => ⟨fun h => by
      obtain ⟨x, hx, z⟩ := List.mem_map.mp h
      cases z; exact hx, fun h => List.mem_map.mpr ⟨k, h, rfl⟩⟩
    rw [e, ← eks, mem, e2, e2, Bool.or_eq_true, decide_eq_true_eq, decide_eq_true_eq]
    refine ⟨fun q => ⟨?_, q⟩, fun q => q.2⟩
    rcases q with q | q
    · obtain ⟨x, hx, rfl⟩ := List.mem_map.mp q; exact ro.keys x hx
    · obtain ⟨x, hx, rfl⟩ := List.mem_map.mp q; exact io.keys x hx
  have sk := sortKD_of eks (by have := nodup_len ks keys5 nd (fun k hk => ((mk k).mp hk).1); have : keys5.length = 5 := rfl; omega)
  rw [sort5 nd _ mk] at sk
  have fr := fld_rows (n := n + 1) (ρ := [.fz (.ref m), .fz (spD sp), .un]) (j := 0) A h rfl
  have fi := fld_intents (n := n + 1) (ρ := [.fz (.ref m), .fz (spD sp), .un]) (j := 0) A h rfl
  have bs : bltD .sorted [.dK G] = some (.lst ((keys5.filter fun k => decide (k ∈ R.map (·.1)) || decide (k ∈ I.map (·.1))).map .str)) := sk
  have e0 : evE (Z.run T (n + 1)) (.comp (.nm 2) (.seq (.blt .sorted (.cons (.dmrg (.fld (.var 0) "rows") (.fld (.var 0) "intents")) .nil))) (.cons (.call "has" (.cons (.var 1) (.cons (.var 2) .nil))) .nil) (.var 2)) [.fz (.ref m), .fz (spD sp), .un] S = some (.lst (((keys5.filter fun k => decide (k ∈ R.map (·.1)) || decide (k ∈ I.map (·.1))).filter (inS sp)).map .str), S) := by
    refine comp_keeph (w := .val (.lst ((keys5.filter fun k => decide (k ∈ R.map (·.1)) || decide (k ∈ I.map (·.1))).map .str))) D.str _ (inS sp) rfl rfl ?_ (show 2 < 3 by decide) (fun x hx => ?_) ?_
    · simp -implicitDefEqProofs [-x_evE_fld, hOf, fr, fi, h.r, h.i, ms, bs]
    · have hx5 := (List.mem_filter.mp hx).1
      have e := has_ok (T := T) (n := n) (S := S) a_has sp x (sp_ok hs) (key_ok hx5).1
      show evE _ _ [.fz (.ref m), .fz (spD sp), .fz (.str x)] S = _
      simp -implicitDefEqProofs [e]
    · exact Nat.le_trans (List.length_filter_le _ _) (by decide)
  have : b_Table_keys_in = .cons Table_keys_in0 .nil := rfl
  rw [this]
  simp -implicitDefEqProofs only [x_evSs_cons, Table_keys_in0, x_evS_ret, e0, mp_some, bnd_some]
  rw [List.filter_filter]
  show some _ = some _
  congr 4
  unfold keysIn
  refine List.filter_congr fun k _ => ?_
  rw [Bool.and_comm]
theorem atI_last {α : Type} (l : List α) (h : l ≠ []) : atI l (-1) = l.getLast? := by
  obtain ⟨l', x, rfl⟩ : ∃ l' x, l = l' ++ [x] := ⟨l.dropLast, l.getLast h, (List.dropLast_concat_getLast h).symm⟩
  have e : ixN (l'.length + 1) (-1) = some l'.length := ixN_last
  unfold atI
  rw [List.length_append, List.length_singleton, e]
  simp
def lastD (l : List Ver) : D := match l.getLast? with
  | some v => eD v
  | none => .non
theorem greatest_ok (a_g : T.defs.lookup (("greatest", none) : Str × Option Str) = some (⟨3, 5, b_greatest⟩ : Fd)) (l : List Ver) (lo hi : St) (hl : l.length ≤ 900) : runF T (n + 1) ("greatest", none) [.lst (l.map eD), sD lo, sD hi] S = some (lastD (l.filter fun v => decide (le lo v.1) && decide (le v.1 hi)), S) := by
  rw [run_def a_g _ S rfl]
  show (evSs (Z.run T n) b_greatest [.fz (.lst (l.map eD)), .fz (sD lo), .fz (sD hi), .un, .un] S).bind outR = _
  have e0 : evE (Z.run T n) (.comp (.nm 4) (.seq (.var 0)) (.cons (.chn .LtE .LtE (.var 1) (.idx (.var 4) (.cst (.int 0))) (.var 2)) .nil) (.var 4)) [.fz (.lst (l.map eD)), .fz (sD lo), .fz (sD hi), .un, .un] S = some (.lst ((l.filter fun v => decide (le lo v.1) && decide (le v.1 hi)).map eD), S) := by
    refine comp_keeph (w := .val (.lst (l.map eD))) eD l (fun v => decide (le lo v.1) && decide (le v.1 hi)) rfl rfl ?_ (show 4 < 5 by decide) (fun x hx => ?_) (by omega)
    · simp -implicitDefEqProofs [hOf]
    · show evE _ _ [.fz (.lst (l.map eD)), .fz (sD lo), .fz (sD hi), .un, .fz (eD x)] S = _
      by_cases c : le lo x.1 <;> simp -implicitDefEqProofs [hOf, Cst.d, c_le, c]
  have q0 : evS (Z.run T n) greatest0 [.fz (.lst (l.map eD)), .fz (sD lo), .fz (sD hi), .un, .un] S = some (.nxt [.fz (.lst (l.map eD)), .fz (sD lo), .fz (sD hi), .fz (.lst ((l.filter fun v => decide (le lo v.1) && decide (le v.1 hi)).map eD)), .un] S) := by
    unfold greatest0
    rw [x_evS_asg, e0]
    simp -implicitDefEqProofs [bindT]
  have : b_greatest = .cons greatest0 (.cons greatest1 .nil) := rfl
  rw [this, seq1 q0]
  generalize (l.filter fun v => decide (le lo v.1) && decide (le v.1 hi)) = f
  by_cases hf : f = []
  · subst hf
    simp -implicitDefEqProofs [greatest1, hOf, gt_ii, Cst.d]
    rfl
  · have hp : (0 : Int) < (f.length : Int) := by have := List.length_pos_iff.mpr hf; omega
    have ea : atI (f.map eD) (-1) = f.getLast?.map eD := by rw [atI_last _ (by simpa using hf), List.getLast?_map]
    obtain ⟨v, hv⟩ : ∃ v, f.getLast? = some v := ⟨_, List.getLast?_eq_some_getLast hf⟩
    rw [hv] at ea
    simp -implicitDefEqProofs [greatest1, hOf, gt_ii, Cst.d, List.length_pos_iff, hf, ea]
    unfold lastD
    rw [hv]; rfl
theorem top_of_ok (a_t : T.defs.lookup (("top_of", none) : Str × Option Str) = some (⟨1, 1, b_top_of⟩ : Fd)) (t : Tx) : runF T (n + 1) ("top_of", none) [txD t] S = some (sD (mx t.rd t.lim), S) := by
  rw [run_def a_t _ S rfl]
  show (evSs (Z.run T n) b_top_of [.fz (txD t)] S).bind outR = _
  have e := max2 t.rd t.lim
  simp -implicitDefEqProofs [b_top_of, hOf, GC.d, Cst.d, e]
  rfl
end
end Tb

set_option Elab.async false
set_option linter.all false
set_option maxRecDepth 100000
set_option maxHeartbeats 2000000
namespace Tb
open PySem PySem.Spec PyProof.Rows L2 Z
/-! # the table's text -/
theorem okAll_str {ks : List Str} (h : ∀ k ∈ ks, PyData.strOk k = true) : okAll (ks.map D.str) = true := okAll_map ks D.str (fun x hx => ⟨h x hx, by simp [D.dep, D.py, PyData.depth], rfl⟩) fun x _ y _ => like_str x y
theorem okDist_str {ks : List Str} (nd : ks.Nodup) (h : ∀ k ∈ ks, PyData.strOk k = true) (hl : ks.length ≤ 1000) : okDist (ks.map D.str) = true := by
  have big : (1000 : Nat) ≤ sizeLine := by decide
  unfold okDist
  simp only [Bool.and_eq_true, decide_eq_true_eq, List.all_eq_true]
  refine ⟨okAll_str h, by rw [List.length_map]; omega, ?_, fun d hd => ?_⟩
  · clear h hl
    induction ks with
    | nil => rfl
    | cons k ks ih =>
      rw [List.nodup_cons] at nd
      rw [List.map_cons, nodupD, ih nd.2, Bool.and_true, List.all_eq_true]
      intro y hy
      obtain ⟨z, hz, rfl⟩ := List.mem_map.mp hy
      rw [eqD_str]
      simp
      rintro rfl
      exact nd.1 hz
  · obtain ⟨z, _, rfl⟩ := List.mem_map.mp hd
    rfl
theorem sit_dK {es : List (Key × D)} {ks : List Str} (e : es.map (·.1) = ks.map Sum.inr) (nd : ks.Nodup) (h : ∀ k ∈ ks, PyData.strOk k = true) (hl : ks.length ≤ 1000) : ∃ l : List (Key × D), l.Perm es ∧ sitD (.dK es) = some (.lst (l.map fun e => .tup [dK1 e.1, e.2])) := by
  have e2 : es.map (fun e => dK1 e.1) = ks.map D.str := by
    rw [show (fun e : Key × D => dK1 e.1) = dK1 ∘ (·.1) from rfl, ← List.map_map, e, List.map_map]; rfl
  refine ⟨es.mergeSort fun a b => leD (dK1 a.1) (dK1 b.1), List.mergeSort_perm _ _, ?_⟩
  show (if okDist (es.map fun e => dK1 e.1) then _ else none) = _
  rw [e2, okDist_str nd h hl]
  rfl
theorem txI_of {i : Int} (h : 0 ≤ i ∧ i ≤ 1000000) : txI i = true := by
  unfold txI
  simp only [Bool.and_eq_true, decide_eq_true_eq]; omega
theorem lf_sD {s : St} (h : okS s) : (sD s).lf = true := by
  have h1 : txI s.1 = true := txI_of (by unfold okS at h; omega)
  have h2 : txI s.2 = true := txI_of (by unfold okS at h; omega)
  simp [sD, D.lf, lfs, h1, h2]
theorem lf_vD {v : Vl} (h : okV v) : (vD v).lf = true := by
  cases v with
  | none => rfl
  | some x => exact (okV_str h x rfl).2
theorem lf_eD {v : Ver} (h : okS v.1 ∧ okV v.2) : (eD v).lf = true := by simp [eD, D.lf, lfs, lf_sD h.1, lf_vD h.2]
theorem nd_sD (s : St) : (sD s).nd = 3 := by simp [sD, D.nd, nds]
theorem nd_vD (v : Vl) : (vD v).nd = 1 := by cases v <;> rfl
theorem nd_eD (v : Ver) : (eD v).nd = 5 := by simp [eD, D.nd, nds, nd_sD, nd_vD]
theorem dp_sD (s : St) : (sD s).dp = 1 := by simp [sD, D.dp, dps]
theorem dp_vD (v : Vl) : (vD v).dp = 0 := by cases v <;> rfl
theorem dp_eD (v : Ver) : (eD v).dp = 2 := by simp [eD, D.dp, dps, dp_sD, dp_vD]
theorem lf_inD {i : In} (h : InOk i) : (inD i).lf = true := by
  have t : ∀ i : Int, okI i → txI i = true := fun i hi => txI_of (by unfold okI at hi; omega)
  have r : lfs (i.rows.map rD) = true := lfs_map rD i.rows fun r hr => by
    obtain ⟨a, b⟩ := h.rows r hr
    simp [rD, D.lf, lfs, t _ a, lf_vD b]
  have s : txS "intent" = true := by decide +kernel
  simp [inD, D.lf, lfs, r, s, t _ h.num, t _ h.ep, t _ h.pr, (key_ok h.an).2, lf_sD h.st, lf_sD h.bt]
theorem nd_inD {i : In} (h : InOk i) : (inD i).nd ≤ 200 := by
  have r := nds_map rD (k := 3) i.rows fun r hr => by simp [rD, D.nd, nds, nd_vD]
  have := h.len
  simp only [inD, D.nd, nds, nd_sD]
  omega
theorem dp_inD {i : In} : (inD i).dp ≤ 3 := by
  have r := dps_map rD (k := 1) i.rows fun r hr => by simp [rD, D.dp, dps, dp_vD]
  simp only [inD, D.dp, dps, dp_sD]
  omega
theorem kept_ok {T : Prog} (A : TabT T) {R : Rows} {I : Ints} (ro : ROk R 100) (io : IOk I) : ∃ x : Str, PyData.strOk x = true ∧ ∀ (n : Nat) (S : Store) (m : Nat), Tab S m R I [] [] 0 → runF T (n + 1) ("_law_kept", none) [.ref m] S = some (.str x, S) := by
  have r5 := ro.len5
  have i5 := io.len5
  obtain ⟨l1, p1, s1⟩ := sit_dK (rwD_keys R) ro.nd (fun k hk => by
    obtain ⟨e, he, rfl⟩ := List.mem_map.mp hk
    exact (key_ok (ro.keys e he)).1) (by rw [List.length_map]; omega)
  obtain ⟨l2, p2, s2⟩ := sit_dK (itD_keys I) io.nd (fun k hk => by
    obtain ⟨e, he, rfl⟩ := List.mem_map.mp hk
    exact (key_ok (io.keys e he)).1) (by rw [List.length_map]; omega)
  have d0 : okDist [] = true := by decide +kernel
  have s3 : sitD (.dT []) = some (.lst []) := by simp [sitD, d0]
  have s4 : sitD (.dK []) = some (.lst []) := by simp [sitD, d0]
  have m1 : ∀ e ∈ l1, ∃ r ∈ R, e = (Sum.inr r.1, D.lst (r.2.map eD)) := fun e he => by
    obtain ⟨r, hr, rfl⟩ := List.mem_map.mp (p1.mem_iff.mp he)
    exact ⟨r, hr, rfl⟩
  have m2 : ∀ e ∈ l2, ∃ r ∈ I, e = (Sum.inr r.1, inD r.2) := fun e he => by
    obtain ⟨r, hr, rfl⟩ := List.mem_map.mp (p2.mem_iff.mp he)
    exact ⟨r, hr, rfl⟩
  have n1 : l1.length ≤ 5 := by rw [p1.length_eq]; unfold rwD; rw [List.length_map]; exact r5
  have n2 : l2.length ≤ 5 := by rw [p2.length_eq]; unfold itD; rw [List.length_map]; exact i5
  have lf1 : lfs (l1.map fun e => .tup [dK1 e.1, e.2]) = true := lfs_map _ _ fun e he => by
    obtain ⟨r, hr, rfl⟩ := m1 e he
    have a := lfs_map eD r.2 fun v hv => lf_eD (ro.ok r hr v hv)
    have b := (key_ok (ro.keys r hr)).2
    simp [D.lf, lfs, dK1, a, b]
  have lf2 : lfs (l2.map fun e => .tup [dK1 e.1, e.2]) = true := lfs_map _ _ fun e he => by
    obtain ⟨r, hr, rfl⟩ := m2 e he
    have b := (key_ok (io.keys r hr)).2
    simp [D.lf, lfs, dK1, lf_inD (io.ok r hr), b]
  have nd1 := nds_map (fun e : Key × D => D.tup [dK1 e.1, e.2]) (k := 510) l1 fun e he => by
    obtain ⟨r, hr, rfl⟩ := m1 e he
    have a := nds_map eD (k := 5) r.2 fun v hv => Nat.le_of_eq (nd_eD v)
    have b := ro.len r hr
    simp only [D.nd, nds, dK1]
    omega
  have nd2 := nds_map (fun e : Key × D => D.tup [dK1 e.1, e.2]) (k := 210) l2 fun e he => by
    obtain ⟨r, hr, rfl⟩ := m2 e he
    have b := nd_inD (io.ok r hr)
    simp only [D.nd, nds, dK1]
    omega
  have dp1 := dps_map (fun e : Key × D => D.tup [dK1 e.1, e.2]) (k := 5) l1 fun e he => by
    obtain ⟨r, hr, rfl⟩ := m1 e he
    have a := dps_map eD (k := 2) r.2 fun v hv => Nat.le_of_eq (dp_eD v)
    simp only [D.dp, dps, dK1]
    omega
  have dp2 := dps_map (fun e : Key × D => D.tup [dK1 e.1, e.2]) (k := 5) l2 fun e he => by
    obtain ⟨r, hr, rfl⟩ := m2 e he
    have b := @dp_inD r.2
    simp only [D.dp, dps, dK1]
    omega
  obtain ⟨x, ex, ox⟩ := repr_small (d := .tup [.tup [.lst (l1.map fun e => .tup [dK1 e.1, e.2]), .lst (l2.map fun e => .tup [dK1 e.1, e.2])], .lst [], .lst [], .int 0]) rfl
    (by have : txI 0 = true := by decide +kernel
        simp [D.lf, lfs, lf1, lf2, this]) (by simp only [D.dp, dps]; omega) (by simp only [D.nd, nds]; omega)
  refine ⟨x, ox, fun n S m h => ?_⟩
  rw [run_def A.a__law_kept _ S rfl]
  show (evSs (Z.run T n) b__law_kept [.fz (.ref m), .un] S).bind outR = _
  have f1 := fld_rows (n := n) (ρ := [.fz (.ref m), .un]) (j := 0) A h rfl
  have f2 := fld_intents (n := n) (ρ := [.fz (.ref m), .un]) (j := 0) A h rfl
  have q0 : evS (Z.run T n) law_kept0 [.fz (.ref m), .un] S = some (.nxt [.fz (.ref m), .fz (.tup [.lst (l1.map fun e => .tup [dK1 e.1, e.2]), .lst (l2.map fun e => .tup [dK1 e.1, e.2])])] S) := by
    unfold law_kept0
    simp -implicitDefEqProofs [-x_evE_fld, hOf, f1, f2, h.r, h.i, s1, s2, len2, bindT]
  have g1 := fld_records (n := n) (ρ := [.fz (.ref m), .fz (.tup [.lst (l1.map fun e => .tup [dK1 e.1, e.2]), .lst (l2.map fun e => .tup [dK1 e.1, e.2])])]) (j := 0) A h rfl
  have g2 := fld_thresholds (n := n) (ρ := [.fz (.ref m), .fz (.tup [.lst (l1.map fun e => .tup [dK1 e.1, e.2]), .lst (l2.map fun e => .tup [dK1 e.1, e.2])])]) (j := 0) A h rfl
  have g3 := fld_bound (n := n) (ρ := [.fz (.ref m), .fz (.tup [.lst (l1.map fun e => .tup [dK1 e.1, e.2]), .lst (l2.map fun e => .tup [dK1 e.1, e.2])])]) (j := 0) A h rfl
  have : b__law_kept = .cons law_kept0 (.cons law_kept1 .nil) := rfl
  rw [this, seq1 q0]
  simp -implicitDefEqProofs [-x_evE_fld, law_kept1, hOf, g1, g2, g3, h.c, h.h, s3, s4, big5, ex]
  rfl
theorem fit_str {x : Str} (h : PyData.strOk x = true) : (D.str x).fit = true := (sh_str h).fit (by omega)
end Tb

set_option Elab.async false
set_option linter.all false
set_option maxRecDepth 100000
set_option maxHeartbeats 2000000
/-! # witnesses: what a plain dict tells, the first thing told otherwise -/
namespace Wt
open PySem PySem.Spec PyProof.Rows L2 Z Tb
inductive Op where
  | get (k : Str) | scan (a b : Str) | put (k v : Str) | del (k : Str)
  deriving DecidableEq
inductive An where
  | no | tx (x : Str) | rw (l : List (Str × Str))
  deriving DecidableEq
def opD : Op → D
  | .get k => .tup [.str "get", .str k]
  | .scan a b => .tup [.str "scan", .tup [.str a, .str b]]
  | .put k v => .tup [.str "put", .str k, .str v]
  | .del k => .tup [.str "delete", .str k]
def ssD (e : Str × Str) : D := .tup [.str e.1, .str e.2]
def anD : An → D
  | .no => .non
  | .tx x => .str x
  | .rw l => .lst (l.map ssD)
def odD (x : Op × An) : D := .tup [opD x.1, anD x.2]
structure Rw where
  n : Int
  st : Int × Int
  did : List (Op × An)
  deriving DecidableEq
def rwD (r : Rw) : D := .tup [.int r.n, pairD r.st, .lst (r.did.map odD)]
def keys4 : List Str := ["a", "b", "bb", "c"]
def vals4 : List Str := ["x", "y", "", "z"]
def sps : List (Str × Str) := [("", "~"), ("a", "b"), ("b", "c"), ("bb", "bb "), ("a", "c")]
theorem keys_ok : ∀ k ∈ keys4, PyData.strOk k = true ∧ txS k = true := by decide +kernel
theorem vals_ok : ∀ k ∈ vals4, PyData.strOk k = true ∧ txS k = true := by decide +kernel
theorem sps_ok : ∀ k ∈ sps, (PyData.strOk k.1 = true ∧ txS k.1 = true) ∧ PyData.strOk k.2 = true ∧ txS k.2 = true := by decide +kernel
def OpOk : Op → Prop
  | .get k => k ∈ keys4
  | .scan a b => (a, b) ∈ sps
  | .put k v => k ∈ keys4 ∧ v ∈ vals4
  | .del k => k ∈ keys4
def AnOk : An → Prop
  | .no => True
  | .tx x => x ∈ vals4
  | .rw l => l.length ≤ 4 ∧ ∀ e ∈ l, e.1 ∈ keys4 ∧ e.2 ∈ vals4
def Op.look : Op → Bool
  | .get _ => true
  | .scan _ _ => true
  | _ => false
abbrev Kp := List (Str × Str)
def kpE (e : Str × Str) : Key × D := (Sum.inr e.1, D.str e.2)
def kpD (m : Kp) : List (Key × D) := m.map kpE
structure KpOk (m : Kp) : Prop where
  nd : (m.map (·.1)).Nodup
  ok : ∀ e ∈ m, e.1 ∈ keys4 ∧ e.2 ∈ vals4
theorem KpOk.nil : KpOk [] := ⟨.nil, fun e h => by cases h⟩
theorem KpOk.len {m : Kp} (h : KpOk m) : m.length ≤ 4 := by
  have := nodup_len (m.map (·.1)) keys4 h.nd (fun k hk => by obtain ⟨e, he, rfl⟩ := List.mem_map.mp hk; exact (h.ok e he).1)
  rw [List.length_map] at this
  exact this
def upd (m : Kp) : Op → Kp
  | .put k v => dput m k v
  | .del k => ddrop m k
  | _ => m
theorem KpOk.upd {m : Kp} (h : KpOk m) {o : Op} (ho : OpOk o) : KpOk (upd m o) := by
  cases o with
  | get k => exact h
  | scan a b => exact h
  | put k v =>
    refine ⟨dput_nodup h.nd k v, fun e he => ?_⟩
    rcases mem_dput.mp he with ⟨h1, _⟩ | rfl
    · exact h.ok e h1
    · exact ho
  | del k => exact ⟨ddrop_nodup h.nd k, fun e he => h.ok e (mem_ddrop.mp he).1⟩
def keysS (m : Kp) : List Str := sortT (m.map (·.1))
theorem mem_keysS {m : Kp} {k : Str} : k ∈ keysS m ↔ k ∈ m.map (·.1) := (List.mergeSort_perm _ _).mem_iff
def rowK (m : Kp) (k : Str) : Str × Str := (k, (look m k).getD Str.empty)
def scn (m : Kp) (a b : Str) : List (Str × Str) := ((keysS m).filter fun k => leS a k && ltS k b).map (rowK m)
def should (m : Kp) : Op → An
  | .get k => match look m k with
    | some v => .tx v
    | none => .no
  | .scan a b => .rw (scn m a b)
  | _ => .no
def leftOf (m : Kp) : List (Str × Str) := (keysS m).map (rowK m)
theorem rowK_ok {m : Kp} (h : KpOk m) {k : Str} (hk : k ∈ keysS m) : (rowK m k).1 ∈ keys4 ∧ (rowK m k).2 ∈ vals4 ∧ look m k = some (rowK m k).2 := by
  obtain ⟨e, he, rfl⟩ := List.mem_map.mp (mem_keysS.mp hk)
  have := look_of h.nd he
  unfold rowK
  rw [this]
  exact ⟨(h.ok e he).1, (h.ok e he).2, rfl⟩
theorem keysS_len {m : Kp} : (keysS m).length = m.length := by unfold keysS sortT; rw [List.length_mergeSort, List.length_map]
theorem should_ok {m : Kp} (h : KpOk m) (o : Op) : AnOk (should m o) := by
  cases o with
  | get k =>
    show AnOk (match look m k with
      | some v => .tx v
      | none => .no)
    cases e : look m k with
    | none => trivial
    | some v => exact (h.ok _ (look_mem e)).2
  | scan a b =>
    refine ⟨?_, fun e he => ?_⟩
    · unfold scn
      rw [List.length_map]
      have := List.length_filter_le (fun k => leS a k && ltS k b) (keysS m)
      rw [keysS_len] at this
      have := h.len
      omega
    · obtain ⟨k, hk, rfl⟩ := List.mem_map.mp he
      obtain ⟨h1, h2, _⟩ := rowK_ok h (List.mem_filter.mp hk).1
      exact ⟨h1, h2⟩
  | put k v => trivial
  | del k => trivial
/-! data -/
@[simp] theorem cont_op {ρ : Env'} {S : Store} {o : Op} : cont ρ S (.val (opD o)) = some (opD o) := by cases o <;> rfl
@[simp] theorem cont_an {ρ : Env'} {S : Store} {o : An} : cont ρ S (.val (anD o)) = some (anD o) := by cases o <;> rfl
@[simp] theorem cont_od {ρ : Env'} {S : Store} {o : Op × An} : cont ρ S (.val (odD o)) = some (odD o) := rfl
@[simp] theorem cont_rw {ρ : Env'} {S : Store} {o : Rw} : cont ρ S (.val (rwD o)) = some (rwD o) := rfl
theorem eqA_str {a b : Str} : PyData.eqv (.str a) (.str b) = decide (a = b) := eqD_str a b
theorem eqD_ss (x y : Str × Str) : eqD (ssD x) (ssD y) = decide (x = y) := by
  obtain ⟨a, b⟩ := x
  obtain ⟨c, d⟩ := y
  unfold ssD eqD
  rw [D.py, D.py]
  simp only [pys, PyData.eqv, PyData.eqvAll, D.py, Bool.and_true, eqA_str, Prod.mk.injEq, Bool.decide_and, Bool.beq_eq_decide_eq]
theorem eqD_an (x y : An) : eqD (anD x) (anD y) = decide (x = y) := by
  cases x <;> cases y <;> try rfl
  · exact (eqD_str _ _).trans (by simp)
  · rename_i l r
    show PyData.eqv (.list (pys (l.map ssD))) (.list (pys (r.map ssD))) = _
    rw [PyData.eqv, lst_eq ssD (fun _ => True) (fun x y _ _ => eqD_ss x y) l r (fun _ _ => trivial) fun _ _ => trivial]
    simp
theorem pl_ss {e : Str × Str} (h : e.1 ∈ keys4 ∧ e.2 ∈ vals4) : (ssD e).plain = true ∧ (ssD e).dep ≤ 1 := by
  obtain ⟨a, b⟩ := e
  refine ⟨?_, by simp [ssD, D.dep, D.py, pys, PyData.depth, PyData.depthAll]⟩
  simp [ssD, D.plain, plains, (keys_ok _ h.1).1, (vals_ok _ h.2).1]
theorem fit_an {a : An} (h : AnOk a) : (anD a).fit = true := by
  cases a with
  | no => rfl
  | tx x => exact (Z.fit_str _).trans (vals_ok _ h).1
  | rw l => exact fits_map l ssD fun x hx => ⟨(pl_ss (h.2 x hx)).1, by have := (pl_ss (h.2 x hx)).2; omega⟩
theorem ne_an {a b : An} (ha : AnOk a) (hb : AnOk b) : cmpD .NotEq (anD a) (anD b) = some (!decide (a = b)) := by
  simp only [cmpD, okEq, fit_an ha, fit_an hb, eqD_an, Bool.and_self, if_true]
end Wt

set_option Elab.async false
set_option linter.all false
set_option maxRecDepth 100000
set_option maxHeartbeats 2000000
namespace Wt
open PySem PySem.Spec PyProof.Rows L2 Z Tb
abbrev Sm := Z.Sm
def in_order0 : Sm := (.ret (.slam [1, 0] (.var 0)))
def in_orderb : Sms := (.cons in_order0 .nil)
def told_by0 : Sm := (.ife (.cmp .Eq (.idx (.var 1) (.cst (.int 0))) (.cst (.str "get"))) (.cons (.ret (.get (.var 0) (.idx (.var 1) (.cst (.int 1))))) .nil) .nil)
def told_by1 : Sm := (.asg (.nms [2, 3]) (.idx (.var 1) (.cst (.int 1))))
def told_by2 : Sm := (.ret (.comp (.nm 4) (.seq (.blt .sorted (.cons (.var 0) .nil))) (.cons (.chn .LtE .Lt (.var 2) (.var 4) (.var 3)) .nil) (.tup (.cons (.var 4) (.cons (.idx (.var 0) (.var 4)) .nil)))))
def told_byb : Sms := (.cons told_by0 (.cons told_by1 (.cons told_by2 .nil)))
def first_wrong0 : Sm := (.asg (.nm 1) (.mref (.dnew false)))
def first_wrong1b0b0 : Sm := (.asg (.nms [6, 7]) (.idx (.var 4) (.var 5)))
def first_wrong1b0b1 : Sm := (.ife (.cmp .Eq (.idx (.var 6) (.cst (.int 0))) (.cst (.str "put"))) (.cons (.seti (.var 1) (.idx (.var 6) (.cst (.int 1))) (.idx (.var 6) (.cst (.int 2)))) .nil) (.cons (.ife (.cmp .Eq (.idx (.var 6) (.cst (.int 0))) (.cst (.str "delete"))) (.cons (.pop none (.var 1) (.cons (.idx (.var 6) (.cst (.int 1))) (.cons (.cst .non) .nil))) .nil) (.cons (.ife (.cmp .NotEq (.call "told_by" (.cons (.var 1) (.cons (.var 6) .nil))) (.var 7)) (.cons (.ret (.tup (.cons (.var 2) (.cons (.var 5) .nil)))) .nil) .nil) .nil)) .nil))
def first_wrong1b0b : Sms := (.cons first_wrong1b0b0 (.cons first_wrong1b0b1 .nil))
def first_wrong1b0 : Sm := (.for_ (.nm 5) (.rng (.blt .len (.cons (.var 4) .nil))) first_wrong1b0b)
def first_wrong1b : Sms := (.cons first_wrong1b0 .nil)
def first_wrong1 : Sm := (.for_ (.nms [2, 3, 4]) (.seq (.call "in_order" (.cons (.var 0) .nil))) first_wrong1b)
def first_wrong2 : Sm := (.ret (.cst .non))
def first_wrongb : Sms := (.cons first_wrong0 (.cons first_wrong1 (.cons first_wrong2 .nil)))
def left_by0 : Sm := (.own 1 (.dnew false))
def left_by1b0b0 : Sm := (.ife (.cmp .Eq (.idx (.var 5) (.cst (.int 0))) (.cst (.str "put"))) (.cons (.seti (.var 1) (.idx (.var 5) (.cst (.int 1))) (.idx (.var 5) (.cst (.int 2)))) .nil) (.cons (.ife (.cmp .Eq (.idx (.var 5) (.cst (.int 0))) (.cst (.str "delete"))) (.cons (.pop none (.var 1) (.cons (.idx (.var 5) (.cst (.int 1))) (.cons (.cst .non) .nil))) .nil) .nil) .nil))
def left_by1b0b : Sms := (.cons left_by1b0b0 .nil)
def left_by1b0 : Sm := (.for_ (.nms [5, 6]) (.seq (.var 4)) left_by1b0b)
def left_by1b : Sms := (.cons left_by1b0 .nil)
def left_by1 : Sm := (.for_ (.nms [2, 3, 4]) (.seq (.call "in_order" (.cons (.var 0) .nil))) left_by1b)
def left_by2 : Sm := (.ret (.sitm (.var 1)))
def left_byb : Sms := (.cons left_by0 (.cons left_by1 (.cons left_by2 .nil)))
theorem kpE_inj : ∀ a b : Str, (Sum.inr a : Key) = Sum.inr b → a = b := fun a b h => by cases h; rfl
theorem kp_get (m : Kp) (k : Str) : dget (.dK (kpD m)) (.str k) = some ((look m k).map D.str) := by
  show some (look (kpD m) (Sum.inr k)) = _
  unfold kpD kpE
  rw [look_map kpE_inj]
theorem kp_put (m : Kp) (k v : Str) (h : m.length ≤ 4) : setItem' (.dK (kpD m)) (.str k) (.str v) = some (.dK (kpD (dput m k v))) := by
  have big : (5 : Nat) ≤ sizeLine := by decide
  show (if (kpD m).length < sizeLine then some (D.dK (dput (kpD m) (Sum.inr k) (.str v))) else none) = _
  rw [if_pos (by unfold kpD; rw [List.length_map]; omega)]
  unfold kpD kpE
  rw [dput_map kpE_inj D.str]
theorem ddrop_none {m : Kp} {k : Str} (h : look m k = none) : ddrop m k = m := by
  unfold ddrop
  rw [List.filter_eq_self]
  intro e he
  simp
  rintro rfl
  exact look_none.mp h (List.mem_map.mpr ⟨e, he, rfl⟩)
theorem kp_pop (m : Kp) (k : Str) : ∃ v, popD (.dK (kpD m)) [.str k, .non] = some (v, .dK (kpD (ddrop m k))) := by
  show ∃ v, some (match look (kpD m) (Sum.inr k) with
    | some v => (v, D.dK (ddrop (kpD m) (Sum.inr k)))
    | none => (D.non, D.dK (kpD m))) = _
  unfold kpD kpE
  rw [look_map kpE_inj, ddrop_map kpE_inj D.str]
  cases e : look m k with
  | none => rw [ddrop_none e]; exact ⟨_, rfl⟩
  | some v => exact ⟨_, rfl⟩
theorem kp_keys (m : Kp) (h : m.length ≤ 4) : bltD .sorted [.dK (kpD m)] = some (.lst ((keysS m).map .str)) := by
  show sortKD (kpD m) = _
  exact sortKD_of (es := kpD m) (ks := m.map (·.1)) (by unfold kpD kpE; rw [List.map_map, List.map_map]; rfl) (by rw [List.length_map]; omega)
theorem kp_idx {m : Kp} (h : KpOk m) {k : Str} (hk : k ∈ keysS m) : idxD (.dK (kpD m)) (.str k) = some (.str (rowK m k).2) := by
  show (dget (.dK (kpD m)) (.str k)).join = _
  rw [kp_get, (rowK_ok h hk).2.2]
  rfl
def e_get : Str := "get"
theorem c_gg : cmpD .Eq (.str "get") (.str "get") = some true := by decide +kernel
theorem c_sg : cmpD .Eq (.str "scan") (.str "get") = some false := by decide +kernel
theorem c_pg : cmpD .Eq (.str "put") (.str "get") = some false := by decide +kernel
theorem c_dg : cmpD .Eq (.str "delete") (.str "get") = some false := by decide +kernel
theorem c_gp : cmpD .Eq (.str "get") (.str "put") = some false := by decide +kernel
theorem c_sp : cmpD .Eq (.str "scan") (.str "put") = some false := by decide +kernel
theorem c_pp : cmpD .Eq (.str "put") (.str "put") = some true := by decide +kernel
theorem c_dp : cmpD .Eq (.str "delete") (.str "put") = some false := by decide +kernel
theorem c_gd : cmpD .Eq (.str "get") (.str "delete") = some false := by decide +kernel
theorem c_sd : cmpD .Eq (.str "scan") (.str "delete") = some false := by decide +kernel
theorem c_pd : cmpD .Eq (.str "put") (.str "delete") = some false := by decide +kernel
theorem c_dd : cmpD .Eq (.str "delete") (.str "delete") = some true := by decide +kernel
theorem c_gs : cmpD .Eq (.str "get") (.str "scan") = some false := by decide +kernel
theorem c_ss : cmpD .Eq (.str "scan") (.str "scan") = some true := by decide +kernel
theorem c_ps : cmpD .Eq (.str "put") (.str "scan") = some false := by decide +kernel
theorem c_ds : cmpD .Eq (.str "delete") (.str "scan") = some false := by decide +kernel
theorem atI2 {α : Type} (x y z : α) (xs : List α) : atI (x :: y :: z :: xs) 2 = some z := by
  have := atI_nat (xs := x :: y :: z :: xs) (i := 2) (by simp)
  exact this
section
variable {T : Prog} {S : Store} {n m : Nat} {kp : Kp}
theorem told_by_ok (a : T.defs.lookup (("told_by", none) : Str × Option Str) = some (⟨2, 5, told_byb⟩ : Fd)) (h : S[m]? = some (.con (.dK (kpD kp)))) (ok : KpOk kp) {o : Op} (ho : OpOk o) (hl : o.look = true) : runF T (n + 1) ("told_by", none) [.ref m, opD o] S = some (anD (should kp o), S) := by
  rw [run_def a _ S rfl]
  show (evSs (Z.run T n) told_byb [.fz (.ref m), .fz (opD o), .un, .un, .un] S).bind outR = _
  cases o with
  | get k =>
    have e := kp_get kp k
    simp -implicitDefEqProofs [told_byb, told_by0, hOf, Cst.d, opD, atI0, atI1, c_gg, h, isDct, e]
    show (outR (.ret ((Option.map D.str (look kp k)).getD .non) S)) = some (anD (match look kp k with
      | some v => .tx v
      | none => .no), S)
    cases look kp k <;> rfl
  | scan x y =>
    obtain ⟨⟨p1, _⟩, p2, _⟩ := sps_ok _ ho
    have ks := kp_keys kp ok.len
    have q0 : evS (Z.run T n) told_by0 [.fz (.ref m), .fz (opD (.scan x y)), .un, .un, .un] S = some (.nxt [.fz (.ref m), .fz (opD (.scan x y)), .un, .un, .un] S) := by
      simp -implicitDefEqProofs [told_by0, hOf, Cst.d, opD, atI0, c_sg]
    have q1 : evS (Z.run T n) told_by1 [.fz (.ref m), .fz (opD (.scan x y)), .un, .un, .un] S = some (.nxt [.fz (.ref m), .fz (opD (.scan x y)), .fz (.str x), .fz (.str y), .un] S) := by
      simp -implicitDefEqProofs [told_by1, hOf, Cst.d, opD, atI1, bindT]
    have hi : evI (Z.run T n) (.seq (.blt .sorted (.cons (.var 0) .nil))) [.fz (.ref m), .fz (opD (.scan x y)), .fz (.str x), .fz (.str y), .un] S = some (.val (.lst ((keysS kp).map .str)), (keysS kp).map .str, S) := by
      simp -implicitDefEqProofs [hOf, h, ks]
    have hc := comp_h (G := Z.run T n) (t := .nm 4) (c := .cons (.chn .LtE .Lt (.var 2) (.var 4) (.var 3)) .nil) (e := .tup (.cons (.var 4) (.cons (.idx (.var 0) (.var 4)) .nil))) (ρ := [.fz (.ref m), .fz (opD (.scan x y)), .fz (.str x), .fz (.str y), .un]) (S := S) (S1 := S) (f := D.str) (xs := keysS kp) (g := fun k => if leS x k && ltS k y then some (ssD (rowK kp k)) else none) rfl rfl hi (fun k hk => by
      obtain ⟨r1, r2, r3⟩ := rowK_ok ok hk
      have sk : PyData.strOk k = true := (keys_ok k r1).1
      have g1 := le_ss x k p1 sk
      have g2 := lt_ss k y sk p2
      have g3 := kp_idx ok hk
      have l2 : (2 : Nat) ≤ sizeLine := by decide
      unfold stepC
      have wi : wipeS [.fz (.ref m), .fz (opD (.scan x y)), .fz (.str x), .fz (.str y), .un] (Tg.nm 4).ix = [.fz (.ref m), .fz (opD (.scan x y)), .fz (.str x), .fz (.str y), .un] := rfl
      rw [wi]
      cases b1 : leS x k <;> cases b2 : ltS k y <;> simp -implicitDefEqProofs [hOf, bindT, g1, g2, b1, b2, h, g3, l2] <;> rfl) (by
        rw [keysS_len]
        have := ok.len
        have : (4 : Nat) ≤ sizeLine := by decide
        omega)
    rw [told_byb, seq1 q0, seq1 q1]
    have e2 : (keysS kp).filterMap (fun k => if leS x k && ltS k y then some (ssD (rowK kp k)) else none) = (scn kp x y).map ssD := by
      unfold scn
      rw [List.map_map]
      generalize keysS kp = l
      induction l with
      | nil => rfl
      | cons k l ih =>
        rw [List.filterMap_cons, List.filter_cons]
        cases leS x k && ltS k y
        · exact ih
        · show ssD (rowK kp k) :: _ = ssD (rowK kp k) :: _
          rw [← ih]
    rw [e2] at hc
    simp -implicitDefEqProofs [told_by2, hc]
    rfl
  | put k v => cases hl
  | del k => cases hl
end
end Wt

set_option Elab.async false
set_option linter.all false
set_option maxRecDepth 100000
set_option maxHeartbeats 2000000
namespace Wt
open PySem PySem.Spec PyProof.Rows L2 Z Tb
/-! # in_order -/
def ltR (a b : Rw) : Bool := decide (a.st.1 < b.st.1 ∨ a.st.1 = b.st.1 ∧ (a.st.2 < b.st.2 ∨ a.st.2 = b.st.2 ∧ a.n < b.n))
theorem ltR_iff {a b : Rw} : ltR a b = true ↔ a.st.1 < b.st.1 ∨ a.st.1 = b.st.1 ∧ (a.st.2 < b.st.2 ∨ a.st.2 = b.st.2 ∧ a.n < b.n) := by unfold ltR; rw [decide_eq_true_eq]
def keyR (r : Rw) : D := .tup [pairD r.st, .int r.n]
def leR (a b : Rw) : Bool := !ltR b a
def srtR (l : List Rw) : List Rw := l.mergeSort leR
theorem like_pair (a b : Int × Int) : likeD (pairD a) (pairD b) = true := like_st a.1 a.2 b.1 b.2
theorem eq_pair (a b : Int × Int) : eqD (pairD a) (pairD b) = (decide (a.1 = b.1) && decide (a.2 = b.2)) := by
  unfold Z.pairD eqD
  rw [D.py, D.py]
  simp only [pys, PyData.eqv, PyData.eqvAll, D.py, Bool.and_true, Bool.beq_eq_decide_eq]
theorem lt_key (a b : Rw) : ltD (keyR a) (keyR b) = ltR a b := by
  unfold keyR
  rw [ltD_cons _ _ _ _ (like_pair _ _), ltD_cons _ _ _ _ (like_int _ _), eq_pair, eqD_int, ltD_int, ltD_nil]
  have h := stlt a.st.1 a.st.2 b.st.1 b.st.2
  have h : ltD (pairD a.st) (pairD b.st) = _ := h
  rw [h]
  unfold ltR
  by_cases h1 : a.st.1 = b.st.1 <;> by_cases h2 : a.st.2 = b.st.2 <;> by_cases h3 : a.n = b.n <;> simp [h1, h2, h3]
theorem okSort_key {l : List Rw} (h : l.length ≤ 1000) : okSort (l.map keyR) = true := by
  have big : (1000 : Nat) ≤ sizeLine := by decide
  unfold okSort
  simp only [Bool.and_eq_true, Bool.or_eq_true, List.all_eq_true, decide_eq_true_eq]
  refine ⟨okAll_map l keyR (fun x _ => ⟨by simp [keyR, Z.pairD, D.plain, plains], by simp [keyR, Z.pairD, D.dep, D.py, pys, PyData.depth, PyData.depthAll], rfl⟩) fun x _ y _ => ?_, by rw [List.length_map]; omega, .inl fun d hd => ?_⟩
  · have h1 := like_pair x.st y.st
    have h2 := like_int x.n y.n
    unfold likeD at h1 h2 ⊢
    simp [keyR, D.py, pys, PySem.W.alike, PySem.W.alikeAll] at h1 h2 ⊢
    exact h1
  · obtain ⟨s, _, rfl⟩ := List.mem_map.mp hd
    rfl
theorem sort_rows {l : List Rw} (h : l.length ≤ 1000) : sortByD (l.map rwD) (l.map keyR) = some (.lst ((srtR l).map rwD)) := by
  unfold sortByD
  rw [if_pos ⟨okSort_key h, by simp⟩]
  have e2 : (l.map rwD).zip (l.map keyR) = l.map fun x => (rwD x, keyR x) := by
    clear h
    induction l with
    | nil => rfl
    | cons a l ih => simp only [List.map_cons, List.zip_cons_cons]; rw [ih]
  rw [e2, ← PySem.W.sort_maps (r := leR) (fun x : Rw => (rwD x, keyR x)) (fun a _ b _ => by
    unfold leR leD
    rw [lt_key]), List.map_map]
  rfl
theorem keysG_map {α : Type} (f : D → Option (D × Store)) (S : Store) (g k : α → D) : ∀ (xs : List α), (∀ x ∈ xs, f (g x) = some (k x, S)) → keysG f S (xs.map g) = some (xs.map k)
  | [], _ => rfl
  | x :: xs, h => by
    rw [List.map_cons, keysG, h x List.mem_cons_self]
    simp only [Option.bind_some, if_true]
    rw [keysG_map f S g k xs fun y hy => h y (List.mem_cons_of_mem _ hy)]
    rfl
section
variable {T : Prog} {S : Store} {n m : Nat} {kp : Kp}
theorem lam_rw (r : Rw) : lamD [1, 0] (rwD r) = some (keyR r) := by
  unfold rwD lamD
  simp [atI0, atI1, keyR]
theorem in_order_ok (a : T.defs.lookup (("in_order", none) : Str × Option Str) = some (⟨1, 2, in_orderb⟩ : Fd)) {l : List Rw} (hl : l.length ≤ 1000) : runF T (n + 1) ("in_order", none) [.lst (l.map rwD)] S = some (.lst ((srtR l).map rwD), S) := by
  rw [run_def a _ S rfl]
  show (evSs (Z.run T n) in_orderb [.fz (.lst (l.map rwD)), .un] S).bind outR = _
  have ks := keysG_map (fun d => (cont [] S (.val d)).bind fun v => (lamD [1, 0] v).map fun y => (y, S)) S rwD keyR l fun x _ => by
    rw [cont_rw]
    simp only [Option.bind_some]
    rw [lam_rw]; rfl
  simp -implicitDefEqProofs [in_orderb, in_order0, hOf, ks, sort_rows hl]
  rfl
end
end Wt

set_option Elab.async false
set_option linter.all false
set_option maxRecDepth 100000
set_option maxHeartbeats 2000000
namespace Wt
open PySem PySem.Spec PyProof.Rows L2 Z Tb
/-! # the first thing told otherwise, what is left -/
def wr1 (m : Kp) (n : Int) (i : Nat) : List (Op × An) → Option (Int × Int)
  | [] => none
  | x :: r => if x.1.look && !decide (should m x.1 = x.2) then some (n, (i : Int)) else wr1 (upd m x.1) n (i + 1) r
def kp1 (m : Kp) (l : List (Op × An)) : Kp := l.foldl (fun m x => upd m x.1) m
def wrA (m : Kp) : List Rw → Option (Int × Int)
  | [] => none
  | r :: l => match wr1 m r.n 0 r.did with
    | some w => some w
    | none => wrA (kp1 m r.did) l
def kpA (m : Kp) (l : List Rw) : Kp := l.foldl (fun m r => kp1 m r.did) m
def rwOk (r : Rw) : Prop := r.did.length ≤ 30 ∧ ∀ x ∈ r.did, OpOk x.1 ∧ AnOk x.2
theorem KpOk.kp1 {m : Kp} (h : KpOk m) : ∀ {l : List (Op × An)}, (∀ x ∈ l, OpOk x.1 ∧ AnOk x.2) → KpOk (kp1 m l) := by
  intro l
  induction l generalizing m with
  | nil => intro _; exact h
  | cons x l ih => exact fun hl => ih (m := Wt.upd m x.1) (h.upd (hl x List.mem_cons_self).1) fun y hy => hl y (List.mem_cons_of_mem _ hy)
theorem KpOk.kpA {m : Kp} (h : KpOk m) : ∀ {l : List Rw}, (∀ r ∈ l, rwOk r) → KpOk (kpA m l) := by
  intro l
  induction l generalizing m with
  | nil => intro _; exact h
  | cons x l ih => exact fun hl => ih (m := Wt.kp1 m x.did) (h.kp1 (hl x List.mem_cons_self).2) fun y hy => hl y (List.mem_cons_of_mem _ hy)
theorem kp1_app (m : Kp) (l r : List (Op × An)) : kp1 m (l ++ r) = kp1 (kp1 m l) r := List.foldl_append ..
theorem kpA_app (m : Kp) (l r : List Rw) : kpA m (l ++ r) = kpA (kpA m l) r := List.foldl_append ..
theorem wr1_app (n : Int) : ∀ (l r : List (Op × An)) (m : Kp) (i : Nat), wr1 m n i (l ++ r) = match wr1 m n i l with
    | some w => some w
    | none => wr1 (kp1 m l) n (i + l.length) r
  | [], r, m, i => rfl
  | x :: l, r, m, i => by
    rw [List.cons_append, wr1, wr1]
    by_cases h : (x.1.look && !decide (should m x.1 = x.2)) = true
    · rw [if_pos h, if_pos h]
    · rw [if_neg h, if_neg h, wr1_app n l r]
      have : i + 1 + l.length = i + (x :: l).length := by rw [List.length_cons]; omega
      rw [this]; rfl
theorem wrA_app : ∀ (l r : List Rw) (m : Kp), wrA m (l ++ r) = match wrA m l with
    | some w => some w
    | none => wrA (kpA m l) r
  | [], r, m => rfl
  | x :: l, r, m => by
    rw [List.cons_append, wrA, wrA]
    cases wr1 m x.n 0 x.did with
    | some w => rfl
    | none => simp only []; rw [wrA_app l r]; rfl
def woD : Option (Int × Int) → D
  | none => .non
  | some w => pairD w
/-! runs -/
def cellK (kp : Kp) : Cell := .con (.dK (kpD kp))
theorem at_last {S0 : Store} {c : Cell} : (S0 ++ [c])[S0.length]? = some c := by simp
theorem set_lastC {S0 : Store} {c d : Cell} : (S0 ++ [c]).set S0.length d = S0 ++ [d] := by simp
section
variable {T : Prog} {S0 : Store} {n : Nat} {kp : Kp} {rows : List Rw}
abbrev FEn (rows : List Rw) (m : Nat) (a b c x5 x6 x7 : Slot) : Env' := [.fz (.lst (rows.map rwD)), .fz (.ref m), a, b, c, x5, x6, x7]
theorem fw_body (a_told : T.defs.lookup (("told_by", none) : Str × Option Str) = some (⟨2, 5, told_byb⟩ : Fd)) (ok : KpOk kp) {did : List (Op × An)} {i : Nat} {o : Op} {a : An} (ha : did[i]? = some (o, a)) (ho : OpOk o) (hA : AnOk a) (nn : Int) (b x6 x7 : Slot) :
    ∃ o', evSs (Z.run T (n + 1)) first_wrong1b0b (FEn rows S0.length (.fz (.int nn)) b (.fz (.lst (did.map odD))) (.fz (.int (i : Int))) x6 x7) (S0 ++ [cellK kp]) = some o' ∧
      Ends (fun ρ S => (o.look && !decide (should kp o = a)) = false ∧ (∃ y6 y7, ρ = FEn rows S0.length (.fz (.int nn)) b (.fz (.lst (did.map odD))) (.fz (.int (i : Int))) y6 y7) ∧ S = S0 ++ [cellK (upd kp o)]) (fun _ _ => False) (fun d S => (o.look && !decide (should kp o = a)) = true ∧ d = .tup [.int nn, .int (i : Int)] ∧ S = S0 ++ [cellK kp]) o' := by
  have hd : i < did.length := (List.getElem?_eq_some_iff.mp ha).1
  have e1 : atI (did.map odD) (i : Int) = some (odD (o, a)) := by
    rw [atI_nat (by rw [List.length_map]; exact hd), List.getElem?_map, ha]; rfl
  have q0 : evS (Z.run T (n + 1)) first_wrong1b0b0 (FEn rows S0.length (.fz (.int nn)) b (.fz (.lst (did.map odD))) (.fz (.int (i : Int))) x6 x7) (S0 ++ [cellK kp]) = some (.nxt (FEn rows S0.length (.fz (.int nn)) b (.fz (.lst (did.map odD))) (.fz (.int (i : Int))) (.fz (opD o)) (.fz (anD a))) (S0 ++ [cellK kp])) := by
    simp -implicitDefEqProofs [first_wrong1b0b0, hOf, e1, odD, bindT]
  have hm : (S0 ++ [cellK kp])[S0.length]? = some (.con (.dK (kpD kp))) := at_last
  rw [first_wrong1b0b, seq1 q0]
  have l2 : (2 : Nat) ≤ sizeLine := by decide
  have ng := ne_an (should_ok ok o) hA
  cases o with
  | get k =>
    have tb := told_by_ok (T := T) (n := n) a_told hm ok ho rfl
    rw [opD] at tb
    by_cases h : should kp (.get k) = a
    · refine ⟨.nxt (FEn rows S0.length (.fz (.int nn)) b (.fz (.lst (did.map odD))) (.fz (.int (i : Int))) (.fz (opD (.get k))) (.fz (anD a))) (S0 ++ [cellK kp]), ?_, by simp [Op.look, h], ⟨_, _, rfl⟩, rfl⟩
      simp [h] at ng
      simp -implicitDefEqProofs [first_wrong1b0b1, hOf, Cst.d, opD, atI0, c_gp, c_gd, tb, h, ng]
    · refine ⟨.ret (.tup [.int nn, .int (i : Int)]) (S0 ++ [cellK kp]), ?_, by simp [Op.look, h], rfl, rfl⟩
      simp [h] at ng
      simp -implicitDefEqProofs [first_wrong1b0b1, hOf, Cst.d, opD, atI0, c_gp, c_gd, tb, ng, l2]
  | scan x y =>
    have tb := told_by_ok (T := T) (n := n) a_told hm ok ho rfl
    rw [opD] at tb
    by_cases h : should kp (.scan x y) = a
    · refine ⟨.nxt (FEn rows S0.length (.fz (.int nn)) b (.fz (.lst (did.map odD))) (.fz (.int (i : Int))) (.fz (opD (.scan x y))) (.fz (anD a))) (S0 ++ [cellK kp]), ?_, by simp [Op.look, h], ⟨_, _, rfl⟩, rfl⟩
      simp [h] at ng
      simp -implicitDefEqProofs [first_wrong1b0b1, hOf, Cst.d, opD, atI0, c_sp, c_sd, tb, h, ng]
    · refine ⟨.ret (.tup [.int nn, .int (i : Int)]) (S0 ++ [cellK kp]), ?_, by simp [Op.look, h], rfl, rfl⟩
      simp [h] at ng
      simp -implicitDefEqProofs [first_wrong1b0b1, hOf, Cst.d, opD, atI0, c_sp, c_sd, tb, ng, l2]
  | put k v =>
    refine ⟨.nxt (FEn rows S0.length (.fz (.int nn)) b (.fz (.lst (did.map odD))) (.fz (.int (i : Int))) (.fz (opD (.put k v))) (.fz (anD a))) (S0 ++ [cellK (dput kp k v)]), ?_, rfl, ⟨_, _, rfl⟩, rfl⟩
    have e := kp_put kp k v ok.len
    simp -implicitDefEqProofs [first_wrong1b0b1, hOf, Cst.d, opD, atI0, atI1, atI2, c_pp, cellK, e, putC, setC]
  | del k =>
    refine ⟨.nxt (FEn rows S0.length (.fz (.int nn)) b (.fz (.lst (did.map odD))) (.fz (.int (i : Int))) (.fz (opD (.del k))) (.fz (anD a))) (S0 ++ [cellK (ddrop kp k)]), ?_, rfl, ⟨_, _, rfl⟩, rfl⟩
    obtain ⟨v, e⟩ := kp_pop kp k
    simp -implicitDefEqProofs [first_wrong1b0b1, hOf, Cst.d, opD, atI0, atI1, c_dp, c_dd, cellK, e, putC, setC, isLst, isDct]
end
end Wt

set_option Elab.async false
set_option linter.all false
set_option maxRecDepth 100000
set_option maxHeartbeats 2000000
namespace Wt
open PySem PySem.Spec PyProof.Rows L2 Z Tb
theorem range_items (k : Nat) : rngD 0 k = (List.range k).map fun j : Nat => D.int ((j : Nat) : Int) := by
  unfold rngD
  refine List.map_congr_left fun j _ => ?_
  rw [Int.zero_add]
theorem smallI_of {i : Int} (h : 0 ≤ i ∧ i < 1000000) : smallI i = true := by
  unfold smallI
  simp only [Bool.and_eq_true, decide_eq_true_eq]
  have : (1000000 : Int) < 2 ^ 62 := by decide
  have : -(2 ^ 62 : Int) ≤ 0 := by decide
  omega
theorem rng_ev {G : Fns} {e : Ex} {ρ : Env'} {S S1 : Store} {v : Int} (h : evE G e ρ S = some (.int v, S1)) (h0 : 0 ≤ v ∧ v < 1000000) : evI G (.rng e) ρ S = some (.val .non, (List.range v.toNat).map (fun j : Nat => D.int ((j : Nat) : Int)), S1) := by
  rw [x_evI_rng, h]
  simp only [bnd_some, intOf_int, smallI_of h0, if_true, range_items]
theorem take_at {α : Type} {l : List α} {i : Nat} {x : α} (h : l[i]? = some x) : l.take (i + 1) = l.take i ++ [x] := by rw [List.take_add_one, h]; rfl
section
variable {T : Prog} {S0 : Store} {n : Nat} {kp : Kp} {rows : List Rw}
theorem fw_inner (a_told : T.defs.lookup (("told_by", none) : Str × Option Str) = some (⟨2, 5, told_byb⟩ : Fd)) (ok : KpOk kp) {did : List (Op × An)} (hd : ∀ x ∈ did, OpOk x.1 ∧ AnOk x.2) (hl : did.length ≤ 1000) (nn : Int) (b x5 x6 x7 : Slot) :
    (wr1 kp nn 0 did = none ∧ ∃ y5 y6 y7, evS (Z.run T (n + 1)) first_wrong1b0 (FEn rows S0.length (.fz (.int nn)) b (.fz (.lst (did.map odD))) x5 x6 x7) (S0 ++ [cellK kp]) = some (.nxt (FEn rows S0.length (.fz (.int nn)) b (.fz (.lst (did.map odD))) y5 y6 y7) (S0 ++ [cellK (kp1 kp did)]))) ∨
    (∃ w c, wr1 kp nn 0 did = some w ∧ evS (Z.run T (n + 1)) first_wrong1b0 (FEn rows S0.length (.fz (.int nn)) b (.fz (.lst (did.map odD))) x5 x6 x7) (S0 ++ [cellK kp]) = some (.ret (pairD w) (S0 ++ [c]))) := by
  have hi : evI (Z.run T (n + 1)) (.rng (.blt .len (.cons (.var 4) .nil))) (FEn rows S0.length (.fz (.int nn)) b (.fz (.lst (did.map odD))) x5 x6 x7) (S0 ++ [cellK kp]) = some (.val .non, (List.range did.length).map (fun j : Nat => D.int ((j : Nat) : Int)), S0 ++ [cellK kp]) := by
    have := rng_ev (G := Z.run T (n + 1)) (e := .blt .len (.cons (.var 4) .nil)) (ρ := FEn rows S0.length (.fz (.int nn)) b (.fz (.lst (did.map odD))) x5 x6 x7) (S := S0 ++ [cellK kp]) (S1 := S0 ++ [cellK kp]) (v := (did.length : Int)) (by simp -implicitDefEqProofs [hOf]) (by omega)
    simpa using this
  have fm := for_two (for_mapg (G := Z.run T (n + 1)) (t := .nm 5) (b := first_wrong1b0b) (fun j : Nat => D.int ((j : Nat) : Int)) (List.range did.length)
    (fun p ρ S => wr1 kp nn 0 (did.take p.length) = none ∧ (∃ y5 y6 y7, ρ = FEn rows S0.length (.fz (.int nn)) b (.fz (.lst (did.map odD))) y5 y6 y7) ∧ S = S0 ++ [cellK (kp1 kp (did.take p.length))])
    (fun _ _ => False) (fun d S => ∃ w c, wr1 kp nn 0 did = some w ∧ d = pairD w ∧ S = S0 ++ [c]) (fun n z => by cases z) hi ⟨rfl, ⟨_, _, _, rfl⟩, rfl⟩ (fun p i q hq ρ S hp => by
      obtain ⟨h1, ⟨y5, y6, y7, rfl⟩, rfl⟩ := hp
      obtain ⟨rfl, hi⟩ := range_split hq
      have hx := List.getElem?_eq_getElem hi
      generalize did[p.length] = x at hx
      obtain ⟨o, a⟩ := x
      have hm := hd _ (List.mem_of_getElem? hx)
      have okp := ok.kp1 (l := did.take p.length) fun y hy => hd y (List.mem_of_mem_take hy)
      obtain ⟨o', e, he⟩ := fw_body (n := n) (S0 := S0) (rows := rows) a_told okp hx hm.1 hm.2 nn b y6 y7
      have tk := take_at hx
      have wa : wr1 kp nn 0 (did.take p.length ++ [(o, a)]) = if o.look && !decide (should (kp1 kp (did.take p.length)) o = a) then some (nn, (p.length : Int)) else none := by
        rw [wr1_app, h1]
        simp only [List.length_take, Nat.zero_add, Nat.min_eq_left (Nat.le_of_lt hi)]
        rfl
      refine ⟨_, rfl, o', e, ?_⟩
      cases o' with
      | nxt ρ2 S2 =>
        obtain ⟨g1, ⟨y6', y7', rfl⟩, rfl⟩ := he
        refine ⟨?_, ⟨_, _, _, rfl⟩, ?_⟩
        · rw [List.length_append, List.length_singleton, tk, wa, g1]; rfl
        · rw [List.length_append, List.length_singleton, tk, kp1_app]; rfl
      | cnt ρ2 S2 =>
        obtain ⟨g1, ⟨y6', y7', rfl⟩, rfl⟩ := he
        refine ⟨?_, ⟨_, _, _, rfl⟩, ?_⟩
        · rw [List.length_append, List.length_singleton, tk, wa, g1]; rfl
        · rw [List.length_append, List.length_singleton, tk, kp1_app]; rfl
      | brk ρ2 S2 => exact he.elim
      | ret d S2 =>
        obtain ⟨g1, rfl, rfl⟩ := he
        refine ⟨(nn, (p.length : Int)), _, ?_, rfl, rfl⟩
        have split : did = (did.take p.length ++ [(o, a)]) ++ did.drop (p.length + 1) := by rw [← tk, List.take_append_drop]
        rw [split, wr1_app, wa, g1]
        rfl))
  rcases fm with ⟨ρ', S', e, h1, ⟨y5, y6, y7, rfl⟩, rfl⟩ | ⟨d, S', e, w, c, h1, rfl, rfl⟩
  · rw [List.length_range, List.take_length] at h1 e
    exact .inl ⟨h1, y5, y6, y7, e⟩
  · exact .inr ⟨w, c, h1, e⟩
theorem srtR_mem {l : List Rw} {r : Rw} : r ∈ srtR l ↔ r ∈ l := (List.mergeSort_perm _ _).mem_iff
theorem first_wrong_ok (a_told : T.defs.lookup (("told_by", none) : Str × Option Str) = some (⟨2, 5, told_byb⟩ : Fd)) (a_in : T.defs.lookup (("in_order", none) : Str × Option Str) = some (⟨1, 2, in_orderb⟩ : Fd)) (a_fw : T.defs.lookup (("first_wrong", none) : Str × Option Str) = some (⟨1, 8, first_wrongb⟩ : Fd))
    (hr : ∀ r ∈ rows, rwOk r) (hl : rows.length ≤ 1000) : ∃ c, runF T (n + 2) ("first_wrong", none) [.lst (rows.map rwD)] S0 = some (woD (wrA [] (srtR rows)), S0 ++ [c]) := by
  rw [run_def a_fw _ S0 rfl]
  show ∃ c, (evSs (Z.run T (n + 1)) first_wrongb [.fz (.lst (rows.map rwD)), .un, .un, .un, .un, .un, .un, .un] S0).bind outR = _
  have q0 : evS (Z.run T (n + 1)) first_wrong0 [.fz (.lst (rows.map rwD)), .un, .un, .un, .un, .un, .un, .un] S0 = some (.nxt (FEn rows S0.length .un .un .un .un .un .un) (S0 ++ [cellK []])) := by
    simp -implicitDefEqProofs [first_wrong0, bindT, newRef]
    rfl
  have io := in_order_ok (T := T) (S := S0 ++ [cellK []]) (n := n) a_in hl
  have hi : evI (Z.run T (n + 1)) (.seq (.call "in_order" (.cons (.var 0) .nil))) (FEn rows S0.length .un .un .un .un .un .un) (S0 ++ [cellK []]) = some (.val (.lst ((srtR rows).map rwD)), (srtR rows).map rwD, S0 ++ [cellK []]) := by
    simp -implicitDefEqProofs [hOf, io]
  have hs : ∀ r ∈ srtR rows, rwOk r := fun r h => hr r (srtR_mem.mp h)
  have fm := for_two (for_mapg (G := Z.run T (n + 1)) (t := .nms [2, 3, 4]) (b := first_wrong1b) rwD (srtR rows)
    (fun p ρ S => wrA [] p = none ∧ (∃ y2 y3 y4 y5 y6 y7, ρ = FEn rows S0.length y2 y3 y4 y5 y6 y7) ∧ S = S0 ++ [cellK (kpA [] p)])
    (fun _ _ => False) (fun d S => ∃ w c, wrA [] (srtR rows) = some w ∧ d = pairD w ∧ S = S0 ++ [c]) (fun n z => by cases z) hi ⟨rfl, ⟨_, _, _, _, _, _, rfl⟩, rfl⟩ (fun p r q hq ρ S hp => by
      obtain ⟨h1, ⟨y2, y3, y4, y5, y6, y7, rfl⟩, rfl⟩ := hp
      have hmem : ∀ x ∈ p, rwOk x := fun x hx => hs x (by rw [hq]; simp [hx])
      have hr2 := hs r (by rw [hq]; simp)
      have okp : KpOk (kpA [] p) := KpOk.nil.kpA hmem
      have bt : bindT (.nms [2, 3, 4]) (rwD r) (FEn rows S0.length y2 y3 y4 y5 y6 y7) = some (FEn rows S0.length (.fz (.int r.n)) (.fz (Z.pairD r.st)) (.fz (.lst (r.did.map odD))) y5 y6 y7) := rfl
      refine ⟨_, bt, ?_⟩
      rcases fw_inner (n := n) (S0 := S0) (rows := rows) a_told okp hr2.2 (by have := hr2.1; omega) r.n (.fz (Z.pairD r.st)) y5 y6 y7 with ⟨e1, z5, z6, z7, e2⟩ | ⟨w, c, e1, e2⟩
      · refine ⟨.nxt (FEn rows S0.length (.fz (.int r.n)) (.fz (Z.pairD r.st)) (.fz (.lst (r.did.map odD))) z5 z6 z7) (S0 ++ [cellK (kp1 (kpA [] p) r.did)]), by rw [first_wrong1b, seq1 e2]; exact x_evSs_nil, ?_, ⟨_, _, _, _, _, _, rfl⟩, ?_⟩
        · rw [wrA_app, h1]
          simp only [wrA, e1]
        · rw [kpA_app]; rfl
      · refine ⟨.ret (pairD w) (S0 ++ [c]), by rw [first_wrong1b, evSs, e2]; rfl, w, c, ?_, rfl, rfl⟩
        rw [hq, wrA_app, h1]
        simp only [wrA, e1]))
  rw [first_wrongb, seq1 q0]
  rcases fm with ⟨ρ', S', e, h1, ⟨y2, y3, y4, y5, y6, y7, rfl⟩, rfl⟩ | ⟨d, S', e, w, c, h1, rfl, rfl⟩
  · refine ⟨cellK (kpA [] (srtR rows)), ?_⟩
    rw [h1]
    have e : evS (Z.run T (n + 1)) first_wrong1 (FEn rows S0.length .un .un .un .un .un .un) (S0 ++ [cellK []]) = _ := e
    rw [seq1 e]
    simp -implicitDefEqProofs [first_wrong2]
    rfl
  · refine ⟨c, ?_⟩
    rw [h1]
    have e : evS (Z.run T (n + 1)) first_wrong1 (FEn rows S0.length .un .un .un .un .un .un) (S0 ++ [cellK []]) = _ := e
    rw [evSs, e]
    rfl
/-! # what is left -/
abbrev LEn (rows : List Rw) (kp : Kp) (a b c x5 x6 : Slot) : Env' := [.fz (.lst (rows.map rwD)), .own (.dK (kpD kp)), a, b, c, x5, x6]
theorem lb_body (ok : KpOk kp) {x : Op × An} (ho : OpOk x.1) (S : Store) (a b c : Slot) : evSs (Z.run T n) left_by1b0b (LEn rows kp a b c (.fz (opD x.1)) (.fz (anD x.2))) S = some (.nxt (LEn rows (upd kp x.1) a b c (.fz (opD x.1)) (.fz (anD x.2))) S) := by
  obtain ⟨o, an⟩ := x
  cases o with
  | get k => simp -implicitDefEqProofs [left_by1b0b, left_by1b0b0, hOf, Cst.d, opD, atI0, c_gp, c_gd, upd]
  | scan x y => simp -implicitDefEqProofs [left_by1b0b, left_by1b0b0, hOf, Cst.d, opD, atI0, c_sp, c_sd, upd]
  | put k v =>
    have e := kp_put kp k v ok.len
    simp -implicitDefEqProofs [left_by1b0b, left_by1b0b0, hOf, Cst.d, opD, atI0, atI1, atI2, c_pp, e, putC, upd]
  | del k =>
    obtain ⟨v, e⟩ := kp_pop kp k
    simp -implicitDefEqProofs [left_by1b0b, left_by1b0b0, hOf, Cst.d, opD, atI0, atI1, c_dp, c_dd, e, putC, isLst, isDct, upd]
theorem lb_inner (ok : KpOk kp) {did : List (Op × An)} (hd : ∀ x ∈ did, OpOk x.1 ∧ AnOk x.2) (S : Store) (a b x5 x6 : Slot) : ∃ y5 y6, evS (Z.run T n) left_by1b0 (LEn rows kp a b (.fz (.lst (did.map odD))) x5 x6) S = some (.nxt (LEn rows (kp1 kp did) a b (.fz (.lst (did.map odD))) y5 y6) S) := by
  have hi : evI (Z.run T n) (.seq (.var 4)) (LEn rows kp a b (.fz (.lst (did.map odD))) x5 x6) S = some (.val (.lst (did.map odD)), did.map odD, S) := by
    simp -implicitDefEqProofs [hOf]
  obtain ⟨ρ', S', e, ⟨y5, y6, rfl⟩, rfl⟩ := for_map (G := Z.run T n) (t := .nms [5, 6]) (b := left_by1b0b) odD did (fun p ρ S' => (∃ y5 y6, ρ = LEn rows (kp1 kp p) a b (.fz (.lst (did.map odD))) y5 y6) ∧ S' = S) (fun n z => by cases z) hi ⟨⟨_, _, rfl⟩, rfl⟩ (fun p x q hq ρ S' hp => by
    obtain ⟨⟨y5, y6, rfl⟩, rfl⟩ := hp
    have okp := ok.kp1 (l := p) fun y hy => hd y (by rw [hq]; simp [hy])
    have bt : bindT (.nms [5, 6]) (odD x) (LEn rows (kp1 kp p) a b (.fz (.lst (did.map odD))) y5 y6) = some (LEn rows (kp1 kp p) a b (.fz (.lst (did.map odD))) (.fz (opD x.1)) (.fz (anD x.2))) := rfl
    exact ⟨_, _, _, bt, lb_body (n := n) okp (hd x (by rw [hq]; simp)).1 S' a b _, ⟨_, _, by rw [kp1_app]; rfl⟩, rfl⟩)
  exact ⟨y5, y6, e⟩
theorem kp_sit {m : Kp} (ok : KpOk m) : sitD (.dK (kpD m)) = some (.lst ((leftOf m).map ssD)) := by
  have e2 : (kpD m).map (fun e => dK1 e.1) = (m.map (·.1)).map D.str := by
    unfold kpD kpE; rw [List.map_map, List.map_map]; rfl
  show (if okDist ((kpD m).map fun e => dK1 e.1) then _ else none) = _
  rw [e2, okDist_str ok.nd (fun k hk => by obtain ⟨e, he, rfl⟩ := List.mem_map.mp hk; exact (keys_ok _ (ok.ok e he).1).1) (by rw [List.length_map]; have := ok.len; omega)]
  rw [if_pos rfl]
  congr 2
  -- by the keys
  have h1 : (kpD m).mergeSort (fun a b => leD (dK1 a.1) (dK1 b.1)) = (m.mergeSort fun a b => leSt a.1 b.1).map kpE := by
    unfold kpD
    rw [← PySem.W.sort_maps (r := fun a b : Str × Str => leSt a.1 b.1) kpE]
    intro a _ b _
    show leSt a.1 b.1 = leD (.str a.1) (.str b.1)
    unfold leD leSt
    rw [ltD_str]
  rw [h1, List.map_map]
  have h2 : (m.mergeSort fun a b => leSt a.1 b.1).map (·.1) = keysS m := by
    unfold keysS sortT
    rw [PySem.W.sort_maps (r := fun a b : Str × Str => leSt a.1 b.1) (fun e : Str × Str => e.1)]
    intro a _ b _
    rfl
  unfold leftOf
  rw [← h2, List.map_map, List.map_map]
  refine List.map_congr_left fun e he => ?_
  have hm : e ∈ m := (List.mergeSort_perm _ _).mem_iff.mp he
  have := look_of ok.nd hm
  show D.tup [D.str e.1, D.str e.2] = D.tup [D.str e.1, D.str ((look m e.1).getD Str.empty)]
  rw [this]
  rfl
theorem left_by_ok (a_in : T.defs.lookup (("in_order", none) : Str × Option Str) = some (⟨1, 2, in_orderb⟩ : Fd)) (a_lb : T.defs.lookup (("left_by", none) : Str × Option Str) = some (⟨1, 7, left_byb⟩ : Fd))
    (hr : ∀ r ∈ rows, rwOk r) (hl : rows.length ≤ 1000) : runF T (n + 2) ("left_by", none) [.lst (rows.map rwD)] S0 = some (.lst ((leftOf (kpA [] (srtR rows))).map ssD), S0) := by
  rw [run_def a_lb _ S0 rfl]
  show (evSs (Z.run T (n + 1)) left_byb [.fz (.lst (rows.map rwD)), .un, .un, .un, .un, .un, .un] S0).bind outR = _
  have q0 : evS (Z.run T (n + 1)) left_by0 [.fz (.lst (rows.map rwD)), .un, .un, .un, .un, .un, .un] S0 = some (.nxt (LEn rows [] .un .un .un .un .un) S0) := by
    simp -implicitDefEqProofs [left_by0, isFresh]
    rfl
  have io := in_order_ok (T := T) (S := S0) (n := n) a_in hl
  have hi : evI (Z.run T (n + 1)) (.seq (.call "in_order" (.cons (.var 0) .nil))) (LEn rows [] .un .un .un .un .un) S0 = some (.val (.lst ((srtR rows).map rwD)), (srtR rows).map rwD, S0) := by
    simp -implicitDefEqProofs [hOf, io]
  have hs : ∀ r ∈ srtR rows, rwOk r := fun r h => hr r (srtR_mem.mp h)
  obtain ⟨ρ', S', e, ⟨y2, y3, y4, y5, y6, rfl⟩, rfl⟩ := for_map (G := Z.run T (n + 1)) (t := .nms [2, 3, 4]) (b := left_by1b) rwD (srtR rows) (fun p ρ S' => (∃ y2 y3 y4 y5 y6, ρ = LEn rows (kpA [] p) y2 y3 y4 y5 y6) ∧ S' = S0) (fun n z => by cases z) hi ⟨⟨_, _, _, _, _, rfl⟩, rfl⟩ (fun p r q hq ρ S' hp => by
    obtain ⟨⟨y2, y3, y4, y5, y6, rfl⟩, rfl⟩ := hp
    have okp : KpOk (kpA [] p) := KpOk.nil.kpA fun x hx => hs x (by rw [hq]; simp [hx])
    have bt : bindT (.nms [2, 3, 4]) (rwD r) (LEn rows (kpA [] p) y2 y3 y4 y5 y6) = some (LEn rows (kpA [] p) (.fz (.int r.n)) (.fz (Z.pairD r.st)) (.fz (.lst (r.did.map odD))) y5 y6) := rfl
    obtain ⟨z5, z6, e⟩ := lb_inner (T := T) (n := n + 1) (rows := rows) okp (hs r (by rw [hq]; simp)).2 S' (.fz (.int r.n)) (.fz (Z.pairD r.st)) y5 y6
    exact ⟨_, LEn rows (kp1 (kpA [] p) r.did) (.fz (.int r.n)) (.fz (Z.pairD r.st)) (.fz (.lst (r.did.map odD))) z5 z6, S', bt, by rw [left_by1b, seq1 e]; exact x_evSs_nil, ⟨_, _, _, _, _, by rw [kpA_app]; rfl⟩, rfl⟩)
  have e : evS (Z.run T (n + 1)) left_by1 (LEn rows [] .un .un .un .un .un) S' = _ := e
  have ok : KpOk (kpA [] (srtR rows)) := KpOk.nil.kpA hs
  have ks := kp_sit ok
  rw [left_byb, seq1 q0, seq1 e]
  simp -implicitDefEqProofs [left_by2, hOf, ks]
  rfl
end
end Wt

set_option Elab.async false
set_option linter.all false
set_option maxRecDepth 100000
set_option maxHeartbeats 4000000
namespace K51
open PySem PySem.Spec PyProof.Rows L2 Z
def top (i : Nat) : Stmt := PySem.Challenge.pw_intentstore_k51_witnesses.main.body.getD i (.Pass ⟨0, 0, 0, 0⟩)
def inCls : Stmt → List Stmt
  | .ClassDef _ _ _ b _ _ _ _ _ _ _ => b
  | _ => []
def meth (i j : Nat) : Stmt := (inCls (top i)).getD j (.Pass ⟨0, 0, 0, 0⟩)
def b_in_order : Sms :=
      (.cons (.ret (.slam [1, 0] (.var 0)))
      .nil)
def b_told_by : Sms :=
      (.cons (.ife (.cmp .Eq (.idx (.var 1) (.cst (.int 0))) (.cst (.str "get"))) (.cons (.ret (.get (.var 0) (.idx (.var 1) (.cst (.int 1)))))
      .nil) .nil)
      (.cons (.asg (.nms [2, 3]) (.idx (.var 1) (.cst (.int 1))))
      (.cons (.ret (.comp (.nm 4) (.seq (.blt .sorted (.cons (.var 0) .nil))) (.cons (.chn .LtE .Lt (.var 2) (.var 4) (.var 3)) .nil) (.tup (.cons (.var 4) (.cons (.idx (.var 0) (.var 4)) .nil)))))
      .nil)))
def b_first_wrong : Sms :=
      (.cons (.asg (.nm 1) (.mref (.dnew false)))
      (.cons (.for_ (.nms [2, 3, 4]) (.seq (.call "in_order" (.cons (.var 0) .nil))) (.cons (.for_ (.nm 5) (.rng (.blt .len (.cons (.var 4) .nil))) (.cons (.asg (.nms [6, 7]) (.idx (.var 4) (.var 5)))
      (.cons (.ife (.cmp .Eq (.idx (.var 6) (.cst (.int 0))) (.cst (.str "put"))) (.cons (.seti (.var 1) (.idx (.var 6) (.cst (.int 1))) (.idx (.var 6) (.cst (.int 2))))
      .nil) (.cons (.ife (.cmp .Eq (.idx (.var 6) (.cst (.int 0))) (.cst (.str "delete"))) (.cons (.pop none (.var 1) (.cons (.idx (.var 6) (.cst (.int 1))) (.cons (.cst .non) .nil)))
      .nil) (.cons (.ife (.cmp .NotEq (.call "told_by" (.cons (.var 1) (.cons (.var 6) .nil))) (.var 7)) (.cons (.ret (.tup (.cons (.var 2) (.cons (.var 5) .nil))))
      .nil) .nil)
      .nil))
      .nil))
      .nil)))
      .nil))
      (.cons (.ret (.cst .non))
      .nil)))
def b_left_by : Sms :=
      (.cons (.own 1 (.dnew false))
      (.cons (.for_ (.nms [2, 3, 4]) (.seq (.call "in_order" (.cons (.var 0) .nil))) (.cons (.for_ (.nms [5, 6]) (.seq (.var 4)) (.cons (.ife (.cmp .Eq (.idx (.var 5) (.cst (.int 0))) (.cst (.str "put"))) (.cons (.seti (.var 1) (.idx (.var 5) (.cst (.int 1))) (.idx (.var 5) (.cst (.int 2))))
      .nil) (.cons (.ife (.cmp .Eq (.idx (.var 5) (.cst (.int 0))) (.cst (.str "delete"))) (.cons (.pop none (.var 1) (.cons (.idx (.var 5) (.cst (.int 1))) (.cons (.cst .non) .nil)))
      .nil) .nil)
      .nil))
      .nil))
      .nil))
      (.cons (.ret (.sitm (.var 1)))
      .nil)))
def b__law_state : Sms :=
      (.cons (.asg (.nm 1) (.mref (.comp (.nm 2) (.seq (.sl (.var 0) .nil (.cons (.cst (.int 63)) .nil))) .nil (.blt .abs (.cons (.var 2) .nil)))))
      (.cons (.ife (.cmp .Eq (.blt .len (.cons (.var 1) .nil)) (.cst (.int 0))) (.cons (.asg (.nm 1) (.mref (.list (.cons (.cst (.int 0)) .nil))))
      .nil) .nil)
      (.cons (.ret (.mref (.list (.cons (.cst (.int 0)) (.cons (.var 1) .nil)))))
      .nil)))
def b__law_take : Sms :=
      (.cons (.ife (.cmp .Lt (.var 1) (.cst (.int 1))) (.cons (.ret (.cst (.int 0)))
      .nil) .nil)
      (.cons (.asg (.nm 2) (.idx (.var 0) (.cst (.int 1))))
      (.cons (.asg (.nm 3) (.bin .Mod (.idx (.var 0) (.cst (.int 0))) (.blt .len (.cons (.var 2) .nil))))
      (.cons (.asg (.nm 4) (.idx (.var 2) (.var 3)))
      (.cons (.ife (.cmp .GtE (.var 4) (.cst (.int 1000000000000000000))) (.cons (.seti (.var 2) (.var 3) (.bin .FloorDiv (.var 4) (.var 1)))
      (.cons (.ret (.bin .Mod (.var 4) (.var 1)))
      .nil)) .nil)
      (.cons (.seti (.var 0) (.cst (.int 0)) (.bin .Add (.idx (.var 0) (.cst (.int 0))) (.cst (.int 1))))
      (.cons (.asg (.nm 5) (.bin .Mod (.blt .int (.cons (.bin .Add (.bin .Mult (.var 4) (.cst (.int 48271))) (.bin .Mult (.idx (.var 0) (.cst (.int 0))) (.cst (.int 69621)))) .nil)) (.cst (.int 2147483647))))
      (.cons (.asg (.nm 5) (.bin .Mod (.blt .int (.cons (.bin .Add (.bin .Mult (.var 5) (.cst (.int 16807))) (.bin .Mult (.idx (.var 0) (.cst (.int 0))) (.cst (.int 7919)))) .nil)) (.cst (.int 1000000007))))
      (.cons (.ret (.bin .Mod (.bin .FloorDiv (.var 5) (.cst (.int 7))) (.var 1)))
      .nil)))))))))
def b__law_bits : Sms :=
      (.cons (.ret (.comp (.nm 2) (.rng (.var 1)) .nil (.call "_law_take" (.cons (.var 0) (.cons (.cst (.int 2)) .nil)))))
      .nil)
def b__law_op : Sms :=
      (.cons (.asg (.nm 1) (.idx (.list (.cons (.cst (.str "a")) (.cons (.cst (.str "b")) (.cons (.cst (.str "bb")) (.cons (.cst (.str "c")) .nil))))) (.call "_law_take" (.cons (.var 0) (.cons (.cst (.int 4)) .nil)))))
      (.cons (.asg (.nm 2) (.call "_law_take" (.cons (.var 0) (.cons (.cst (.int 5)) .nil))))
      (.cons (.ife (.cmp .Eq (.var 2) (.cst (.int 0))) (.cons (.ret (.tup (.cons (.cst (.str "get")) (.cons (.var 1) .nil))))
      .nil) .nil)
      (.cons (.ife (.cmp .Eq (.var 2) (.cst (.int 1))) (.cons (.ret (.tup (.cons (.cst (.str "scan")) (.cons (.idx (.list (.cons (.tup (.cons (.cst (.str "")) (.cons (.cst (.str "~")) .nil))) (.cons (.tup (.cons (.cst (.str "a")) (.cons (.cst (.str "b")) .nil))) (.cons (.tup (.cons (.cst (.str "b")) (.cons (.cst (.str "c")) .nil))) (.cons (.tup (.cons (.cst (.str "bb")) (.cons (.cst (.str "bb ")) .nil))) .nil))))) (.call "_law_take" (.cons (.var 0) (.cons (.cst (.int 4)) .nil)))) .nil))))
      .nil) .nil)
      (.cons (.ife (.cmp .Eq (.var 2) (.cst (.int 2))) (.cons (.ret (.tup (.cons (.cst (.str "delete")) (.cons (.var 1) .nil))))
      .nil) .nil)
      (.cons (.ret (.tup (.cons (.cst (.str "put")) (.cons (.var 1) (.cons (.idx (.list (.cons (.cst (.str "x")) (.cons (.cst (.str "y")) (.cons (.cst (.str "")) .nil)))) (.call "_law_take" (.cons (.var 0) (.cons (.cst (.int 3)) .nil)))) .nil)))))
      .nil))))))
def b__law_rows : Sms :=
      (.cons (.own 1 (.list .nil))
      (.cons (.for_ (.nm 2) (.rng2 (.cst (.int 1)) (.bin .Add (.cst (.int 2)) (.call "_law_take" (.cons (.var 0) (.cons (.cst (.int 6)) .nil))))) (.cons (.asg (.nm 3) (.comp (.nm 4) (.rng (.call "_law_take" (.cons (.var 0) (.cons (.cst (.int 6)) .nil)))) .nil (.tup (.cons (.call "_law_op" (.cons (.var 0) .nil)) (.cons (.cst .non) .nil)))))
      (.cons (.app (.var 1) (.tup (.cons (.var 2) (.cons (.tup (.cons (.call "_law_take" (.cons (.var 0) (.cons (.cst (.int 4)) .nil))) (.cons (.call "_law_take" (.cons (.var 0) (.cons (.cst (.int 2)) .nil))) .nil))) (.cons (.var 3) .nil)))))
      .nil)))
      (.frz 1 (.cons (.ret (.var 1))
      .nil))))
def b__law_sorted : Sms :=
      (.cons (.asg (.nm 1) (.list .nil))
      (.cons (.for_ (.nm 2) (.seq (.sst (.comp (.nm 4) (.seq (.var 0)) .nil (.idx (.var 4) (.cst (.int 1)))))) (.cons (.for_ (.nm 3) (.seq (.blt .sorted (.cons (.comp (.nm 4) (.seq (.var 0)) (.cons (.cmp .Eq (.idx (.var 4) (.cst (.int 1))) (.var 2)) .nil) (.idx (.var 4) (.cst (.int 0)))) .nil))) (.cons (.asg (.nm 1) (.bin .Add (.var 1) (.comp (.nm 4) (.seq (.var 0)) (.cons (.cmp .Eq (.idx (.var 4) (.cst (.int 0))) (.var 3)) .nil) (.var 4))))
      .nil))
      .nil))
      (.cons (.ret (.var 1))
      .nil)))
def b__law_should : Sms :=
      (.cons (.ife (.cmp .Eq (.idx (.var 1) (.cst (.int 0))) (.cst (.str "get"))) (.cons (.ret (.get (.var 0) (.idx (.var 1) (.cst (.int 1)))))
      .nil) .nil)
      (.cons (.ife (.cmp .Eq (.idx (.var 1) (.cst (.int 0))) (.cst (.str "scan"))) (.cons (.ret (.comp (.nm 2) (.seq (.blt .sorted (.cons (.var 0) .nil))) (.cons (.and (.cmp .GtE (.var 2) (.idx (.idx (.var 1) (.cst (.int 1))) (.cst (.int 0)))) (.cmp .Lt (.var 2) (.idx (.idx (.var 1) (.cst (.int 1))) (.cst (.int 1))))) .nil) (.tup (.cons (.var 2) (.cons (.idx (.var 0) (.var 2)) .nil)))))
      .nil) .nil)
      (.cons (.ret (.cst .non))
      .nil)))
def b__law_told : Sms :=
      (.cons (.asg (.nm 2) (.mref (.dnew false)))
      (.cons (.own 3 (.dnew false))
      (.cons (.asg (.nm 4) (.cst .non))
      (.cons (.for_ (.nms [5, 6, 7]) (.seq (.call "_law_sorted" (.cons (.var 1) .nil))) (.cons (.own 8 (.list .nil))
      (.cons (.for_ (.nm 9) (.rng (.blt .len (.cons (.var 7) .nil))) (.cons (.asg (.nm 10) (.idx (.idx (.var 7) (.var 9)) (.cst (.int 0))))
      (.cons (.asg (.nm 11) (.call "_law_should" (.cons (.var 2) (.cons (.var 10) .nil))))
      (.cons (.ife (.and (.cmp .In (.idx (.var 10) (.cst (.int 0))) (.list (.cons (.cst (.str "get")) (.cons (.cst (.str "scan")) .nil)))) (.cmp .Eq (.call "_law_take" (.cons (.var 0) (.cons (.cst (.int 8)) .nil))) (.cst (.int 0)))) (.cons (.asg (.nm 11) (.idx (.list (.cons (.cst (.str "z")) (.cons (.cst .non) (.cons (.list .nil) .nil)))) (.call "_law_take" (.cons (.var 0) (.cons (.cst (.int 3)) .nil)))))
      .nil) .nil)
      (.cons (.ife (.and (.cmp .In (.idx (.var 10) (.cst (.int 0))) (.list (.cons (.cst (.str "get")) (.cons (.cst (.str "scan")) .nil)))) (.and (.cmp .NotEq (.var 11) (.call "_law_should" (.cons (.var 2) (.cons (.var 10) .nil)))) (.iso false (.var 4) (.cst .non)))) (.cons (.asg (.nm 4) (.tup (.cons (.var 5) (.cons (.var 9) .nil))))
      .nil) .nil)
      (.cons (.ife (.cmp .Eq (.idx (.var 10) (.cst (.int 0))) (.cst (.str "put"))) (.cons (.seti (.var 2) (.idx (.var 10) (.cst (.int 1))) (.idx (.var 10) (.cst (.int 2))))
      .nil) .nil)
      (.cons (.ife (.cmp .Eq (.idx (.var 10) (.cst (.int 0))) (.cst (.str "delete"))) (.cons (.pop none (.var 2) (.cons (.idx (.var 10) (.cst (.int 1))) (.cons (.cst .non) .nil)))
      .nil) .nil)
      (.cons (.app (.var 8) (.tup (.cons (.var 10) (.cons (.var 11) .nil))))
      .nil))))))))
      (.frz 8 (.cons (.seti (.var 3) (.var 5) (.tup (.cons (.var 5) (.cons (.var 6) (.cons (.var 8) .nil)))))
      .nil)))))
      (.cons (.ret (.tup (.cons (.comp (.nm 12) (.seq (.var 1)) .nil (.idx (.var 3) (.idx (.var 12) (.cst (.int 0))))) (.cons (.var 4) (.cons (.comp (.nm 13) (.seq (.blt .sorted (.cons (.var 2) .nil))) .nil (.tup (.cons (.var 13) (.cons (.idx (.var 2) (.var 13)) .nil)))) .nil)))))
      .nil)))))
def b_law : Sms :=
      (.cons (.asg (.nm 1) (.call "_law_state" (.cons (.var 0) .nil)))
      (.cons (.asg (.nms [4, 5, 6]) (.call "_law_told" (.cons (.var 1) (.cons (.call "_law_rows" (.cons (.var 1) .nil)) .nil))))
      (.cons (.asg (.nm 2) (.blt .repr (.cons (.var 4) .nil)))
      (.cons (.for_ (.nm 3) (.seq (.list (.cons (.var 4) (.cons (.rev (.var 4)) (.cons (.bin .Add (.sl (.var 4) (.cons (.cst (.int 2)) .nil) .nil) (.sl (.var 4) .nil (.cons (.cst (.int 2)) .nil))) .nil))))) (.cons (.ife (.or (.cmp .NotEq (.call "in_order" (.cons (.var 3) .nil)) (.call "_law_sorted" (.cons (.var 4) .nil))) (.or (.cmp .NotEq (.call "first_wrong" (.cons (.var 3) .nil)) (.var 5)) (.cmp .NotEq (.call "left_by" (.cons (.var 3) .nil)) (.var 6)))) (.cons (.ret (.cst (.bl false)))
      .nil) .nil)
      .nil))
      (.cons (.ret (.cmp .Eq (.blt .repr (.cons (.var 4) .nil)) (.var 2)))
      .nil)))))
def r_in_order : DefR := ⟨⟨("in_order", none), "in_order", "in_order", defArgs (top 1), defBody (top 1), defScope (top 1), [], []⟩, ["rows", "<lam>"], 1, b_in_order⟩
def r_told_by : DefR := ⟨⟨("told_by", none), "told_by", "told_by", defArgs (top 2), defBody (top 2), defScope (top 2), [], []⟩, ["kept", "what", "first", "below", "key"], 2, b_told_by⟩
def r_first_wrong : DefR := ⟨⟨("first_wrong", none), "first_wrong", "first_wrong", defArgs (top 3), defBody (top 3), defScope (top 3), [], []⟩, ["rows", "kept", "number", "stamp", "did", "index", "what", "told"], 1, b_first_wrong⟩
def r_left_by : DefR := ⟨⟨("left_by", none), "left_by", "left_by", defArgs (top 4), defBody (top 4), defScope (top 4), [], []⟩, ["rows", "kept", "number", "stamp", "did", "what", "told"], 1, b_left_by⟩
def r__law_state : DefR := ⟨⟨("_law_state", none), "_law_state", "_law_state", defArgs (top 6), defBody (top 6), defScope (top 6), [], []⟩, ["script", "cells", "cell"], 1, b__law_state⟩
def r__law_take : DefR := ⟨⟨("_law_take", none), "_law_take", "_law_take", defArgs (top 7), defBody (top 7), defScope (top 7), [], []⟩, ["state", "most", "cells", "at", "cell", "mixed"], 2, b__law_take⟩
def r__law_bits : DefR := ⟨⟨("_law_bits", none), "_law_bits", "_law_bits", defArgs (top 8), defBody (top 8), defScope (top 8), [], []⟩, ["state", "count", "k"], 2, b__law_bits⟩
def r__law_op : DefR := ⟨⟨("_law_op", none), "_law_op", "_law_op", defArgs (top 9), defBody (top 9), defScope (top 9), [], []⟩, ["state", "key", "kind"], 1, b__law_op⟩
def r__law_rows : DefR := ⟨⟨("_law_rows", none), "_law_rows", "_law_rows", defArgs (top 10), defBody (top 10), defScope (top 10), [], []⟩, ["state", "rows", "number", "did", "k"], 1, b__law_rows⟩
def r__law_sorted : DefR := ⟨⟨("_law_sorted", none), "_law_sorted", "_law_sorted", defArgs (top 11), defBody (top 11), defScope (top 11), [], []⟩, ["rows", "found", "stamp", "number", "row"], 1, b__law_sorted⟩
def r__law_should : DefR := ⟨⟨("_law_should", none), "_law_should", "_law_should", defArgs (top 12), defBody (top 12), defScope (top 12), [], []⟩, ["kept", "op", "key"], 2, b__law_should⟩
def r__law_told : DefR := ⟨⟨("_law_told", none), "_law_told", "_law_told", defArgs (top 13), defBody (top 13), defScope (top 13), [], []⟩, ["state", "rows", "kept", "told", "wrong", "number", "stamp", "did", "more", "k", "op", "answer", "row", "key"], 2, b__law_told⟩
def r_law : DefR := ⟨⟨("law", none), "law", "law", defArgs (top 14), defBody (top 14), defScope (top 14), [], []⟩, ["script", "state", "kept", "other", "rows", "wrong", "left"], 1, b_law⟩
def conf : Conf := ⟨[r_in_order, r_told_by, r_first_wrong, r_left_by, r__law_state, r__law_take, r__law_bits, r__law_op, r__law_rows, r__law_sorted, r__law_should, r__law_told, r_law], [], ["sorted", "range", "len", "abs", "int", "set", "repr"], []⟩
end K51

set_option Elab.async false
set_option linter.all false
set_option maxRecDepth 100000
set_option maxHeartbeats 2000000
namespace K51
open PySem PySem.Spec PyProof.Rows L2 Z Tb Wt
abbrev T : Prog := conf.prog
abbrev Sm := Z.Sm
theorem at_told : T.defs.lookup (("told_by", none) : Str × Option Str) = some (⟨2, 5, told_byb⟩ : Fd) := rfl
theorem at_in : T.defs.lookup (("in_order", none) : Str × Option Str) = some (⟨1, 2, in_orderb⟩ : Fd) := rfl
theorem at_fw : T.defs.lookup (("first_wrong", none) : Str × Option Str) = some (⟨1, 8, first_wrongb⟩ : Fd) := rfl
theorem at_lb : T.defs.lookup (("left_by", none) : Str × Option Str) = some (⟨1, 7, left_byb⟩ : Fd) := rfl
theorem at_state : T.defs.lookup (("_law_state", none) : Str × Option Str) = some (⟨1, 3, bState⟩ : Fd) := rfl
theorem at_take : T.defs.lookup (("_law_take", none) : Str × Option Str) = some (⟨2, 6, bTake⟩ : Fd) := rfl
def law_op0 : Sm := (.asg (.nm 1) (.idx (.list (.cons (.cst (.str "a")) (.cons (.cst (.str "b")) (.cons (.cst (.str "bb")) (.cons (.cst (.str "c")) .nil))))) (.call "_law_take" (.cons (.var 0) (.cons (.cst (.int 4)) .nil)))))
def law_op1 : Sm := (.asg (.nm 2) (.call "_law_take" (.cons (.var 0) (.cons (.cst (.int 5)) .nil))))
def law_op2 : Sm := (.ife (.cmp .Eq (.var 2) (.cst (.int 0))) (.cons (.ret (.tup (.cons (.cst (.str "get")) (.cons (.var 1) .nil)))) .nil) .nil)
def law_op3 : Sm := (.ife (.cmp .Eq (.var 2) (.cst (.int 1))) (.cons (.ret (.tup (.cons (.cst (.str "scan")) (.cons (.idx (.list (.cons (.tup (.cons (.cst (.str "")) (.cons (.cst (.str "~")) .nil))) (.cons (.tup (.cons (.cst (.str "a")) (.cons (.cst (.str "b")) .nil))) (.cons (.tup (.cons (.cst (.str "b")) (.cons (.cst (.str "c")) .nil))) (.cons (.tup (.cons (.cst (.str "bb")) (.cons (.cst (.str "bb ")) .nil))) .nil))))) (.call "_law_take" (.cons (.var 0) (.cons (.cst (.int 4)) .nil)))) .nil)))) .nil) .nil)
def law_op4 : Sm := (.ife (.cmp .Eq (.var 2) (.cst (.int 2))) (.cons (.ret (.tup (.cons (.cst (.str "delete")) (.cons (.var 1) .nil)))) .nil) .nil)
def law_op5 : Sm := (.ret (.tup (.cons (.cst (.str "put")) (.cons (.var 1) (.cons (.idx (.list (.cons (.cst (.str "x")) (.cons (.cst (.str "y")) (.cons (.cst (.str "")) .nil)))) (.call "_law_take" (.cons (.var 0) (.cons (.cst (.int 3)) .nil)))) .nil)))))
def law_opb : Sms := (.cons law_op0 (.cons law_op1 (.cons law_op2 (.cons law_op3 (.cons law_op4 (.cons law_op5 .nil))))))
theorem law_op_eq : b__law_op = law_opb := rfl
def law_rows0 : Sm := (.own 1 (.list .nil))
def law_rows1b0 : Sm := (.asg (.nm 3) (.comp (.nm 4) (.rng (.call "_law_take" (.cons (.var 0) (.cons (.cst (.int 6)) .nil)))) .nil (.tup (.cons (.call "_law_op" (.cons (.var 0) .nil)) (.cons (.cst .non) .nil)))))
def law_rows1b1 : Sm := (.app (.var 1) (.tup (.cons (.var 2) (.cons (.tup (.cons (.call "_law_take" (.cons (.var 0) (.cons (.cst (.int 4)) .nil))) (.cons (.call "_law_take" (.cons (.var 0) (.cons (.cst (.int 2)) .nil))) .nil))) (.cons (.var 3) .nil)))))
def law_rows1b : Sms := (.cons law_rows1b0 (.cons law_rows1b1 .nil))
def law_rows1 : Sm := (.for_ (.nm 2) (.rng2 (.cst (.int 1)) (.bin .Add (.cst (.int 2)) (.call "_law_take" (.cons (.var 0) (.cons (.cst (.int 6)) .nil))))) law_rows1b)
def law_rows2 : Sm := (.ret (.var 1))
def law_rowsb : Sms := (.cons law_rows0 (.cons law_rows1 (.frz 1 (.cons law_rows2 .nil))))
theorem law_rows_eq : b__law_rows = law_rowsb := rfl
def law_sorted0 : Sm := (.asg (.nm 1) (.list .nil))
def law_sorted1b0b0 : Sm := (.asg (.nm 1) (.bin .Add (.var 1) (.comp (.nm 4) (.seq (.var 0)) (.cons (.cmp .Eq (.idx (.var 4) (.cst (.int 0))) (.var 3)) .nil) (.var 4))))
def law_sorted1b0b : Sms := (.cons law_sorted1b0b0 .nil)
def law_sorted1b0 : Sm := (.for_ (.nm 3) (.seq (.blt .sorted (.cons (.comp (.nm 4) (.seq (.var 0)) (.cons (.cmp .Eq (.idx (.var 4) (.cst (.int 1))) (.var 2)) .nil) (.idx (.var 4) (.cst (.int 0)))) .nil))) law_sorted1b0b)
def law_sorted1b : Sms := (.cons law_sorted1b0 .nil)
def law_sorted1 : Sm := (.for_ (.nm 2) (.seq (.sst (.comp (.nm 4) (.seq (.var 0)) .nil (.idx (.var 4) (.cst (.int 1)))))) law_sorted1b)
def law_sorted2 : Sm := (.ret (.var 1))
def law_sortedb : Sms := (.cons law_sorted0 (.cons law_sorted1 (.cons law_sorted2 .nil)))
theorem law_sorted_eq : b__law_sorted = law_sortedb := rfl
def law_should0 : Sm := (.ife (.cmp .Eq (.idx (.var 1) (.cst (.int 0))) (.cst (.str "get"))) (.cons (.ret (.get (.var 0) (.idx (.var 1) (.cst (.int 1))))) .nil) .nil)
def law_should1 : Sm := (.ife (.cmp .Eq (.idx (.var 1) (.cst (.int 0))) (.cst (.str "scan"))) (.cons (.ret (.comp (.nm 2) (.seq (.blt .sorted (.cons (.var 0) .nil))) (.cons (.and (.cmp .GtE (.var 2) (.idx (.idx (.var 1) (.cst (.int 1))) (.cst (.int 0)))) (.cmp .Lt (.var 2) (.idx (.idx (.var 1) (.cst (.int 1))) (.cst (.int 1))))) .nil) (.tup (.cons (.var 2) (.cons (.idx (.var 0) (.var 2)) .nil))))) .nil) .nil)
def law_should2 : Sm := (.ret (.cst .non))
def law_shouldb : Sms := (.cons law_should0 (.cons law_should1 (.cons law_should2 .nil)))
theorem law_should_eq : b__law_should = law_shouldb := rfl
def law_told0 : Sm := (.asg (.nm 2) (.mref (.dnew false)))
def law_told1 : Sm := (.own 3 (.dnew false))
def law_told2 : Sm := (.asg (.nm 4) (.cst .non))
def law_told3b0 : Sm := (.own 8 (.list .nil))
def law_told3b1b0 : Sm := (.asg (.nm 10) (.idx (.idx (.var 7) (.var 9)) (.cst (.int 0))))
def law_told3b1b1 : Sm := (.asg (.nm 11) (.call "_law_should" (.cons (.var 2) (.cons (.var 10) .nil))))
def law_told3b1b2 : Sm := (.ife (.and (.cmp .In (.idx (.var 10) (.cst (.int 0))) (.list (.cons (.cst (.str "get")) (.cons (.cst (.str "scan")) .nil)))) (.cmp .Eq (.call "_law_take" (.cons (.var 0) (.cons (.cst (.int 8)) .nil))) (.cst (.int 0)))) (.cons (.asg (.nm 11) (.idx (.list (.cons (.cst (.str "z")) (.cons (.cst .non) (.cons (.list .nil) .nil)))) (.call "_law_take" (.cons (.var 0) (.cons (.cst (.int 3)) .nil))))) .nil) .nil)
def law_told3b1b3 : Sm := (.ife (.and (.cmp .In (.idx (.var 10) (.cst (.int 0))) (.list (.cons (.cst (.str "get")) (.cons (.cst (.str "scan")) .nil)))) (.and (.cmp .NotEq (.var 11) (.call "_law_should" (.cons (.var 2) (.cons (.var 10) .nil)))) (.iso false (.var 4) (.cst .non)))) (.cons (.asg (.nm 4) (.tup (.cons (.var 5) (.cons (.var 9) .nil)))) .nil) .nil)
def law_told3b1b4 : Sm := (.ife (.cmp .Eq (.idx (.var 10) (.cst (.int 0))) (.cst (.str "put"))) (.cons (.seti (.var 2) (.idx (.var 10) (.cst (.int 1))) (.idx (.var 10) (.cst (.int 2)))) .nil) .nil)
def law_told3b1b5 : Sm := (.ife (.cmp .Eq (.idx (.var 10) (.cst (.int 0))) (.cst (.str "delete"))) (.cons (.pop none (.var 2) (.cons (.idx (.var 10) (.cst (.int 1))) (.cons (.cst .non) .nil))) .nil) .nil)
def law_told3b1b6 : Sm := (.app (.var 8) (.tup (.cons (.var 10) (.cons (.var 11) .nil))))
def law_told3b1b : Sms := (.cons law_told3b1b0 (.cons law_told3b1b1 (.cons law_told3b1b2 (.cons law_told3b1b3 (.cons law_told3b1b4 (.cons law_told3b1b5 (.cons law_told3b1b6 .nil)))))))
def law_told3b1 : Sm := (.for_ (.nm 9) (.rng (.blt .len (.cons (.var 7) .nil))) law_told3b1b)
def law_told3b2 : Sm := (.seti (.var 3) (.var 5) (.tup (.cons (.var 5) (.cons (.var 6) (.cons (.var 8) .nil)))))
def law_told3b : Sms := (.cons law_told3b0 (.cons law_told3b1 (.frz 8 (.cons law_told3b2 .nil))))
def law_told3 : Sm := (.for_ (.nms [5, 6, 7]) (.seq (.call "_law_sorted" (.cons (.var 1) .nil))) law_told3b)
def law_told4 : Sm := (.ret (.tup (.cons (.comp (.nm 12) (.seq (.var 1)) .nil (.idx (.var 3) (.idx (.var 12) (.cst (.int 0))))) (.cons (.var 4) (.cons (.comp (.nm 13) (.seq (.blt .sorted (.cons (.var 2) .nil))) .nil (.tup (.cons (.var 13) (.cons (.idx (.var 2) (.var 13)) .nil)))) .nil)))))
def law_toldb : Sms := (.cons law_told0 (.cons law_told1 (.cons law_told2 (.cons law_told3 (.cons law_told4 .nil)))))
theorem law_told_eq : b__law_told = law_toldb := rfl
def law0 : Sm := (.asg (.nm 1) (.call "_law_state" (.cons (.var 0) .nil)))
def law1 : Sm := (.asg (.nms [4, 5, 6]) (.call "_law_told" (.cons (.var 1) (.cons (.call "_law_rows" (.cons (.var 1) .nil)) .nil))))
def law2 : Sm := (.asg (.nm 2) (.blt .repr (.cons (.var 4) .nil)))
def law3b0 : Sm := (.ife (.or (.cmp .NotEq (.call "in_order" (.cons (.var 3) .nil)) (.call "_law_sorted" (.cons (.var 4) .nil))) (.or (.cmp .NotEq (.call "first_wrong" (.cons (.var 3) .nil)) (.var 5)) (.cmp .NotEq (.call "left_by" (.cons (.var 3) .nil)) (.var 6)))) (.cons (.ret (.cst (.bl false))) .nil) .nil)
def law3b : Sms := (.cons law3b0 .nil)
def law3 : Sm := (.for_ (.nm 3) (.seq (.list (.cons (.var 4) (.cons (.rev (.var 4)) (.cons (.bin .Add (.sl (.var 4) (.cons (.cst (.int 2)) .nil) .nil) (.sl (.var 4) .nil (.cons (.cst (.int 2)) .nil))) .nil))))) law3b)
def law4 : Sm := (.ret (.cmp .Eq (.blt .repr (.cons (.var 4) .nil)) (.var 2)))
def lawb : Sms := (.cons law0 (.cons law1 (.cons law2 (.cons law3 (.cons law4 .nil)))))
theorem law_eq : b_law = lawb := rfl
theorem at_op : T.defs.lookup (("_law_op", none) : Str × Option Str) = some (⟨1, 3, law_opb⟩ : Fd) := rfl
theorem at_rows : T.defs.lookup (("_law_rows", none) : Str × Option Str) = some (⟨1, 5, law_rowsb⟩ : Fd) := rfl
theorem at_sorted : T.defs.lookup (("_law_sorted", none) : Str × Option Str) = some (⟨1, 5, law_sortedb⟩ : Fd) := rfl
theorem at_should : T.defs.lookup (("_law_should", none) : Str × Option Str) = some (⟨2, 3, law_shouldb⟩ : Fd) := rfl
theorem at_ltold : T.defs.lookup (("_law_told", none) : Str × Option Str) = some (⟨2, 14, law_toldb⟩ : Fd) := rfl
theorem at_law : T.defs.lookup (("law", none) : Str × Option Str) = some (⟨1, 7, lawb⟩ : Fd) := rfl
end K51

set_option Elab.async false
set_option linter.all false
set_option maxRecDepth 100000
set_option maxHeartbeats 2000000
namespace K51
open PySem PySem.Spec PyProof.Rows L2 Z Wt
open Tb (Rd Wnt)
section
variable {St : Store} {N st c : Nat}
theorem tk (h : Rd St st c) (most : Int) (h0 : 0 < most) (h1 : most < 1073741824) : ∃ v S', runF T (N + 1) ("_law_take", none) [.ref st, .int most] St = some (.int v, S') ∧ 0 ≤ v ∧ v < most ∧ Wnt st c St S' := by
  obtain ⟨pos, cs, R⟩ := h
  obtain ⟨v, S', e, d1, d2, d3, d4, d5⟩ := take_ok at_take (n := N) R most h1
  exact ⟨v, S', e, (d1 h0).1, (d1 h0).2, d3, d4, d5⟩
theorem szs : (9 : Nat) ≤ sizeLine ∧ (8 : Nat) ≤ sizeLine ∧ (6 : Nat) ≤ sizeLine ∧ (5 : Nat) ≤ sizeLine ∧ (4 : Nat) ≤ sizeLine ∧ (3 : Nat) ≤ sizeLine ∧ (2 : Nat) ≤ sizeLine ∧ (1 : Nat) ≤ sizeLine ∧ (0 : Nat) ≤ sizeLine := by decide
theorem eq_ii (a b : Int) : cmpD .Eq (.int a) (.int b) = some (decide (a = b)) := by simp only [cmpD, okEq, fit_int, Z.eqD_int, Bool.and_self, if_true]
theorem op_ok (h : Rd St st c) : ∃ o S', OpOk o ∧ runF T (N + 2) ("_law_op", none) [.ref st] St = some (opD o, S') ∧ Wnt st c St S' := by
  have sz := szs
  obtain ⟨v1, S1, e1, a0, a1, w1⟩ := tk (N := N) h 4 (by decide) (by decide)
  obtain ⟨v2, S2, e2, b0, b1, w2⟩ := tk (N := N) w1.1 5 (by decide) (by decide)
  obtain ⟨k, hk, ek⟩ := Z.atI_in (f := D.str) (xs := keys4) (v := v1) ⟨a0, by simp [keys4]; omega⟩
  have ek : atI ([.str "a", .str "b", .str "bb", .str "c"] : List D) v1 = some (.str k) := ek
  have q0 : evS (Z.run T (N + 1)) law_op0 [.fz (.ref st), .un, .un] St = some (.nxt [.fz (.ref st), .fz (.str k), .un] S1) := by
    simp -implicitDefEqProofs [law_op0, hOf, Cst.d, bindT, sz, e1, ek]
  have q1 : evS (Z.run T (N + 1)) law_op1 [.fz (.ref st), .fz (.str k), .un] S1 = some (.nxt [.fz (.ref st), .fz (.str k), .fz (.int v2)] S2) := by
    simp -implicitDefEqProofs [law_op1, hOf, Cst.d, bindT, e2]
  have run : runF T (N + 2) ("_law_op", none) [.ref st] St = (evSs (Z.run T (N + 1)) law_opb [.fz (.ref st), .un, .un] St).bind outR := by rw [run_def at_op _ St rfl]; rfl
  rw [run, law_opb, seq1 q0, seq1 q1]
  have c0 := eq_ii v2 0
  have c1 := eq_ii v2 1
  have c2 := eq_ii v2 2
  by_cases g0 : v2 = 0
  · refine ⟨.get k, S2, hk, ?_, w1.trans w2⟩
    simp [g0] at c0
    simp -implicitDefEqProofs [law_op2, hOf, Cst.d, sz, g0, c0]
    rfl
  by_cases g1 : v2 = 1
  · obtain ⟨v3, S3, e3, d0, d1, w3⟩ := tk (N := N) w2.1 4 (by decide) (by decide)
    obtain ⟨s, hs, es⟩ := Z.atI_in (f := ssD) (xs := [("", "~"), ("a", "b"), ("b", "c"), ("bb", "bb ")]) (v := v3) ⟨d0, by simp; omega⟩
    have es : atI ([.tup [.str "", .str "~"], .tup [.str "a", .str "b"], .tup [.str "b", .str "c"], .tup [.str "bb", .str "bb "]] : List D) v3 = some (ssD s) := es
    refine ⟨.scan s.1 s.2, S3, ?_, ?_, (w1.trans w2).trans w3⟩
    · simp at hs
      show (s.1, s.2) ∈ sps
      rcases hs with rfl | rfl | rfl | rfl <;> simp [sps]
    · simp [g1] at c1 c0
      simp -implicitDefEqProofs [law_op2, law_op3, hOf, Cst.d, sz, g1, c0, c1, e3, es]
      rfl
  by_cases g2 : v2 = 2
  · refine ⟨.del k, S2, hk, ?_, w1.trans w2⟩
    simp [g2] at c0 c1 c2
    simp -implicitDefEqProofs [law_op2, law_op3, law_op4, hOf, Cst.d, sz, g2, c0, c1, c2]
    rfl
  · obtain ⟨v3, S3, e3, d0, d1, w3⟩ := tk (N := N) w2.1 3 (by decide) (by decide)
    obtain ⟨s, hs, es⟩ := Z.atI_in (f := D.str) (xs := ["x", "y", ""]) (v := v3) ⟨d0, by simp; omega⟩
    have es : atI ([.str "x", .str "y", .str ""] : List D) v3 = some (.str s) := es
    refine ⟨.put k s, S3, ⟨hk, ?_⟩, ?_, (w1.trans w2).trans w3⟩
    · simp at hs
      rcases hs with rfl | rfl | rfl <;> simp [Wt.vals4]
    · simp [g0, g1, g2] at c0 c1 c2
      simp -implicitDefEqProofs [law_op2, law_op3, law_op4, law_op5, hOf, Cst.d, sz, c0, c1, c2, e3, es]
      rfl
/-! # rows -/
structure RowOk (r : Rw) : Prop where
  st : 0 ≤ r.st.1 ∧ r.st.1 < 4 ∧ 0 ≤ r.st.2 ∧ r.st.2 < 2
  n : 1 ≤ r.n ∧ r.n ≤ 6
  len : r.did.length ≤ 5
  ops : ∀ x ∈ r.did, OpOk x.1 ∧ AnOk x.2
theorem RowOk.rw {r : Rw} (h : RowOk r) : rwOk r := ⟨by have := h.len; omega, h.ops⟩
theorem rng2_ev {G : Fns} {e e' : Ex} {ρ : Env'} {S S1 S2 : Store} {v w : Int} (h : evE G e ρ S = some (.int v, S1)) (h' : evE G e' ρ S1 = some (.int w, S2)) (h0 : 0 ≤ v ∧ v < 1000000) (h1 : 0 ≤ w ∧ w < 1000000) : evI G (.rng2 e e') ρ S = some (.val .non, (List.range (w - v).toNat).map (fun j : Nat => D.int (v + (j : Int))), S2) := by
  rw [x_evI_rng2, h]
  simp only [bnd_some]
  rw [h']
  simp only [bnd_some, intOf_int, Wt.smallI_of h0, Wt.smallI_of h1, Bool.and_self, if_true]
  rfl
theorem did_ok (h : Rd St st c) (x1 : Slot) (x2 x3 x4 : Slot) (no : noOwn [.fz (.ref st), x1, x2, x3, x4] [4] = true) : ∃ (did : List (Op × An)) (S' : Store), (did.length ≤ 5 ∧ ∀ x ∈ did, OpOk x.1 ∧ AnOk x.2) ∧ Wnt st c St S' ∧
    evS (Z.run T (N + 2)) law_rows1b0 [.fz (.ref st), x1, x2, x3, x4] St = some (.nxt [.fz (.ref st), x1, x2, .fz (.lst (did.map odD)), x4] S') := by
  have sz := szs
  obtain ⟨v, S1, e1, v0, v1, w1⟩ := tk (N := N + 1) h 6 (by decide) (by decide)
  have hi : evI (Z.run T (N + 2)) (.rng (.call "_law_take" (.cons (.var 0) (.cons (.cst (.int 6)) .nil)))) [.fz (.ref st), x1, x2, x3, x4] St = some (.val .non, (List.range v.toNat).map (fun j : Nat => D.int ((j : Nat) : Int)), S1) := by
    refine rng_ev ?_ (by omega)
    simp -implicitDefEqProofs [hOf, Cst.d, e1]
  obtain ⟨ys, S2, e2, w2, q2, l2⟩ := comp_inv (G := Z.run T (N + 2)) (t := .nm 4) (c := .nil) (e := .tup (.cons (.call "_law_op" (.cons (.var 0) .nil)) (.cons (.cst .non) .nil))) (ρ := [.fz (.ref st), x1, x2, x3, x4]) (I := fun S => Wnt st c S1 S) (Q := fun ys => ∃ did : List (Op × An), ys = did.map odD ∧ ∀ x ∈ did, OpOk x.1 ∧ AnOk x.2) no (fun n z => by cases z) hi (Wnt.refl w1.1) ⟨[], rfl, by simp⟩ (fun x hx S w => by
      obtain ⟨o, S3, ok, e3, w3⟩ := op_ok (N := N) w.1
      refine ⟨some (odD (o, .no)), S3, ?_, w.trans w3, ?_⟩
      · unfold stepC
        have wi : wipeS [.fz (.ref st), x1, x2, x3, x4] (Tg.nm 4).ix = [.fz (.ref st), x1, x2, x3, .un] := rfl
        rw [wi]
        simp -implicitDefEqProofs [bindT, hOf, Cst.d, e3, sz]
        rfl
      · rintro zs ⟨did, rfl, hd⟩
        exact ⟨(o, .no) :: did, rfl, fun y hy => by
          rcases List.mem_cons.mp hy with rfl | hy
          · exact ⟨ok, trivial⟩
          · exact hd y hy⟩) (by rw [List.length_map, List.length_range]; have := sz.1; omega)
  obtain ⟨did, rfl, hd⟩ := q2
  rw [List.length_map, List.length_map, List.length_range] at l2
  refine ⟨did, S2, ⟨by omega, hd⟩, w1.trans w2, ?_⟩
  unfold law_rows1b0
  simp -implicitDefEqProofs [hOf, e2, bindT]
theorem rows_ok (h : Rd St st c) : ∃ (rows : List Rw) (S' : Store), (∀ r ∈ rows, RowOk r) ∧ (rows.map (·.n)).Nodup ∧ rows.length ≤ 6 ∧ runF T (N + 3) ("_law_rows", none) [.ref st] St = some (.lst (rows.map rwD), S') ∧ Wnt st c St S' := by
  have sz := szs
  obtain ⟨v, S1, e1, v0, v1, w1⟩ := tk (N := N + 1) h 6 (by decide) (by decide)
  have run : runF T (N + 3) ("_law_rows", none) [.ref st] St = (evSs (Z.run T (N + 2)) law_rowsb [.fz (.ref st), .un, .un, .un, .un] St).bind outR := by rw [run_def at_rows _ St rfl]; rfl
  have q0 : evS (Z.run T (N + 2)) law_rows0 [.fz (.ref st), .un, .un, .un, .un] St = some (.nxt [.fz (.ref st), .own (.lst []), .un, .un, .un] St) := by
    simp -implicitDefEqProofs [law_rows0, isFresh]
    try rfl
  have hi : evI (Z.run T (N + 2)) (.rng2 (.cst (.int 1)) (.bin .Add (.cst (.int 2)) (.call "_law_take" (.cons (.var 0) (.cons (.cst (.int 6)) .nil))))) [.fz (.ref st), .own (.lst []), .un, .un, .un] St = some (.val .non, (List.range (2 + v - 1).toNat).map (fun j : Nat => D.int (1 + (j : Int))), S1) := by
    refine rng2_ev (S1 := St) (by simp -implicitDefEqProofs [Cst.d]) ?_ (by omega) (by omega)
    simp -implicitDefEqProofs [hOf, Cst.d, e1]
  obtain ⟨ρ', S', e, ⟨rows, y2, y3, y4, rfl, hlen, hrs, hid, hno⟩, w2⟩ := for_map (G := Z.run T (N + 2)) (t := .nm 2) (b := law_rows1b) (fun j : Nat => D.int (1 + (j : Int))) (List.range (2 + v - 1).toNat)
    (fun p ρ S => (∃ (rows : List Rw) (y2 y3 y4 : Slot), ρ = [.fz (.ref st), .own (.lst (rows.map rwD)), y2, y3, y4] ∧ rows.length = p.length ∧ (∀ r ∈ rows, RowOk r) ∧ rows.map (·.n) = (List.range p.length).map (fun j : Nat => 1 + (j : Int)) ∧ noOwn [.fz (.ref st), .own (.lst (rows.map rwD)), y2, y3, y4] [4] = true) ∧ Wnt st c S1 S) (fun n z => by cases z) hi ⟨⟨[], .un, .un, .un, rfl, rfl, by simp, rfl, rfl⟩, Wnt.refl w1.1⟩ (fun p j q hq ρ S hp => by
      obtain ⟨⟨rows, y2, y3, y4, rfl, hlen, hrs, hid, hno⟩, w⟩ := hp
      obtain ⟨rfl, hj⟩ := range_split hq
      obtain ⟨did, S2, ⟨dl, dok⟩, w2, e2⟩ := did_ok (N := N) w.1 (.own (.lst (rows.map rwD))) (.fz (.int (1 + (p.length : Int)))) y3 y4 (by cases y4 <;> first | rfl | exact hno)
      obtain ⟨a, S3, e3, a0, a1, w3⟩ := tk (N := N + 1) w2.1 4 (by decide) (by decide)
      obtain ⟨b, S4, e4, b0, b1, w4⟩ := tk (N := N + 1) w3.1 2 (by decide) (by decide)
      have hl : (rows.map rwD).length < sizeLine := by
        rw [List.length_map]
        have : (9 : Nat) ≤ sizeLine := by decide
        omega
      have bt : bindT (.nm 2) (.int (1 + (p.length : Int))) [.fz (.ref st), .own (.lst (rows.map rwD)), y2, y3, y4] = some [.fz (.ref st), .own (.lst (rows.map rwD)), .fz (.int (1 + (p.length : Int))), y3, y4] := rfl
      refine ⟨_, [.fz (.ref st), .own (.lst ((rows ++ [Rw.mk (1 + (p.length : Int)) (a, b) did]).map rwD)), .fz (.int (1 + (p.length : Int))), .fz (.lst (did.map odD)), y4], S4, bt, ?_, ⟨_, _, _, _, rfl, by simp [hlen], ?_, ?_, ?_⟩, ((w.trans w2).trans w3).trans w4⟩
      · rw [law_rows1b, seq1 e2]
        rw [List.length_map] at hl
        simp -implicitDefEqProofs [law_rows1b1, hOf, Cst.d, e3, e4, sz, isLst, hl, putC]
        rfl
      · intro r hr
        rcases List.mem_append.mp hr with hr | hr
        · exact hrs r hr
        · rw [List.mem_singleton.mp hr]
          exact ⟨⟨a0, a1, b0, b1⟩, ⟨by dsimp only; omega, by dsimp only; omega⟩, dl, dok⟩
      · rw [List.length_append, List.length_singleton, List.range_succ, List.map_append, List.map_append, hid]
        rfl
      · cases y4 <;> first | rfl | exact hno)
  have e : evS (Z.run T (N + 2)) law_rows1 [.fz (.ref st), .own (.lst []), .un, .un, .un] St = _ := e
  rw [List.length_range] at hlen hid
  refine ⟨rows, S', hrs, ?_, by omega, ?_, w1.trans w2⟩
  · rw [hid]
    exact List.Pairwise.map _ (fun i j hij h => hij (by omega)) List.nodup_range
  · rw [run, law_rowsb, seq1 q0, seq1 e]
    simp -implicitDefEqProofs [law_rows2]
    rfl
end
end K51

set_option Elab.async false
set_option linter.all false
set_option maxRecDepth 100000
set_option maxHeartbeats 2000000
namespace K51
open PySem PySem.Spec PyProof.Rows L2 Z Wt
open Tb (Rd Wnt)
/-! # the order, plainly -/
theorem asc_uniq {α : Type} {R : α → α → Prop} (irr : ∀ a, ¬ R a a) (tr : ∀ a b c, R a b → R b c → R a c) : ∀ {l m : List α}, l.Pairwise R → m.Pairwise R → (∀ x, x ∈ l ↔ x ∈ m) → l = m
  | [], [], _, _, _ => rfl
  | [], y :: m, _, _, h => by have := (h y).mpr List.mem_cons_self; cases this
  | x :: l, [], _, _, h => by have := (h x).mp List.mem_cons_self; cases this
  | x :: l, y :: m, hl, hm, h => by
    rw [List.pairwise_cons] at hl hm
    have e : x = y := by
      rcases List.mem_cons.mp ((h x).mp List.mem_cons_self) with e | h1
      · exact e
      · rcases List.mem_cons.mp ((h y).mpr List.mem_cons_self) with e | h2
        · exact e.symm
        · exact absurd (tr _ _ _ (hm.1 _ h1) (hl.1 _ h2)) (irr _)
    subst e
    congr 1
    refine asc_uniq irr tr hl.2 hm.2 fun z => ⟨fun hz => ?_, fun hz => ?_⟩
    · rcases List.mem_cons.mp ((h z).mp (List.mem_cons_of_mem _ hz)) with e | h1
      · subst e; exact absurd (hl.1 _ hz) (irr _)
      · exact h1
    · rcases List.mem_cons.mp ((h z).mpr (List.mem_cons_of_mem _ hz)) with e | h1
      · subst e; exact absurd (hm.1 _ hz) (irr _)
      · exact h1
def LtR (a b : Rw) : Prop := ltR a b = true
theorem LtR.irr (a : Rw) : ¬ LtR a a := by unfold LtR; rw [ltR_iff]; omega
theorem LtR.tr (a b c : Rw) (h : LtR a b) (k : LtR b c) : LtR a c := by unfold LtR at *; rw [ltR_iff] at *; omega
theorem leR_iff {a b : Rw} : leR a b = true ↔ ¬ LtR b a := by unfold leR LtR; simp
theorem srtR_asc {l : List Rw} (nd : (l.map (·.n)).Nodup) : (srtR l).Pairwise LtR := by
  have h1 : (srtR l).Pairwise fun a b => leR a b = true := List.pairwise_mergeSort (le := leR) (fun a b c h k => by
    rw [leR_iff] at *
    unfold LtR at *
    rw [ltR_iff] at *
    omega) (fun a b => by
    rw [Bool.or_eq_true, leR_iff, leR_iff]
    unfold LtR
    rw [ltR_iff, ltR_iff]
    omega) l
  have h2 : (srtR l).Pairwise fun a b => a.n ≠ b.n := by
    have : ((srtR l).map (·.n)).Nodup := ((List.mergeSort_perm l leR).map _).nodup_iff.mpr nd
    unfold List.Nodup at this
    rw [List.pairwise_map] at this
    exact this
  refine List.Pairwise.imp (R := fun a b => leR a b = true ∧ a.n ≠ b.n) ?_ (h1.and h2)
  rintro a b ⟨h, k⟩
  rw [leR_iff] at h
  unfold LtR at *
  rw [ltR_iff] at *
  omega
/-- two lists of the same rows, each with its own number -/
theorem srtR_same {l m : List Rw} (nd : (l.map (·.n)).Nodup) (nd' : (m.map (·.n)).Nodup) (h : ∀ x, x ∈ l ↔ x ∈ m) : srtR l = srtR m :=
  asc_uniq LtR.irr LtR.tr (srtR_asc nd) (srtR_asc nd') fun x => by rw [srtR_mem, srtR_mem]; exact h x
theorem srtR_of {l m : List Rw} (nd : (l.map (·.n)).Nodup) (asc : m.Pairwise LtR) (h : ∀ x, x ∈ l ↔ x ∈ m) : srtR l = m :=
  asc_uniq LtR.irr LtR.tr (srtR_asc nd) asc fun x => by rw [srtR_mem]; exact h x
def ids (l : List Rw) (s : Int × Int) : List Int := (l.filter fun r => decide (r.st = s)).map (·.n)
def atN (l : List Rw) (n : Int) : List Rw := l.filter fun r => decide (r.n = n)
def blk (l : List Rw) (s : Int × Int) : List Rw := (sortI (ids l s)).flatMap (atN l)
def lawS (l : List Rw) : List Rw := (srtP (l.map (·.st))).flatMap (blk l)
theorem sortI_mem' {l : List Int} {x : Int} : x ∈ sortI l ↔ x ∈ l := (List.mergeSort_perm _ _).mem_iff
theorem atN_one {l : List Rw} (nd : (l.map (·.n)).Nodup) {r : Rw} (h : r ∈ l) : atN l r.n = [r] := by
  unfold atN
  induction l with
  | nil => cases h
  | cons a l ih =>
    rw [List.map_cons, List.nodup_cons] at nd
    rw [List.filter_cons]
    rcases List.mem_cons.mp h with rfl | h
    · rw [if_pos (by simp)]
      congr 1
      rw [List.filter_eq_nil_iff]
      intro x hx
      simp
      intro e
      exact nd.1 (List.mem_map.mpr ⟨x, hx, e⟩)
    · rw [if_neg (by simp; intro e; exact nd.1 (List.mem_map.mpr ⟨r, h, e.symm⟩))]
      exact ih nd.2 h
theorem mem_blk {l : List Rw} (nd : (l.map (·.n)).Nodup) {s : Int × Int} {r : Rw} : r ∈ blk l s ↔ r ∈ l ∧ r.st = s := by
  unfold blk
  rw [List.mem_flatMap]
  constructor
  · rintro ⟨n, hn, hr⟩
    rw [sortI_mem'] at hn
    obtain ⟨q, hq, rfl⟩ := List.mem_map.mp hn
    obtain ⟨h1, h2⟩ := List.mem_filter.mp hq
    rw [atN_one nd h1] at hr
    rw [List.mem_singleton.mp hr]
    exact ⟨h1, by simpa using h2⟩
  · rintro ⟨h1, h2⟩
    refine ⟨r.n, sortI_mem'.mpr (List.mem_map.mpr ⟨r, List.mem_filter.mpr ⟨h1, by simpa using h2⟩, rfl⟩), ?_⟩
    rw [atN_one nd h1]; simp
theorem lawS_eq {l : List Rw} (nd : (l.map (·.n)).Nodup) : lawS l = srtR l := by
  refine (srtR_of nd ?_ fun x => ?_).symm
  · unfold lawS
    rw [List.pairwise_flatMap]
    refine ⟨fun s hs => ?_, ?_⟩
    · unfold blk
      rw [List.pairwise_flatMap]
      refine ⟨fun n hn => ?_, ?_⟩
      · rw [sortI_mem'] at hn
        obtain ⟨q, hq, rfl⟩ := List.mem_map.mp hn
        rw [atN_one nd (List.mem_filter.mp hq).1]
        simp
      · have ndi : (ids l s).Nodup := by
          unfold ids
          exact (List.filter_sublist.map _).nodup nd
        refine List.Pairwise.imp_of_mem ?_ (sortI_pw ndi)
        intro a b ha hb hab x hx y hy
        rw [sortI_mem'] at ha hb
        obtain ⟨p, hp, rfl⟩ := List.mem_map.mp ha
        obtain ⟨q, hq, rfl⟩ := List.mem_map.mp hb
        rw [atN_one nd (List.mem_filter.mp hp).1] at hx
        rw [atN_one nd (List.mem_filter.mp hq).1] at hy
        rw [List.mem_singleton.mp hx, List.mem_singleton.mp hy]
        have h1 : p.st = s := by simpa using (List.mem_filter.mp hp).2
        have h2 : q.st = s := by simpa using (List.mem_filter.mp hq).2
        unfold LtR
        rw [ltR_iff, h1, h2]
        omega
    · refine List.Pairwise.imp_of_mem ?_ (srtP_asc (l.map (·.st)))
      intro a b ha hb hab x hx y hy
      obtain ⟨_, h1⟩ := (mem_blk nd).mp hx
      obtain ⟨_, h2⟩ := (mem_blk nd).mp hy
      unfold LtR
      rw [ltR_iff, h1, h2]
      rw [ltP_iff] at hab
      omega
  · unfold lawS
    rw [List.mem_flatMap]
    constructor
    · intro h
      exact ⟨x.st, mem_srtP.mpr (List.mem_map.mpr ⟨x, h, rfl⟩), (mem_blk nd).mpr ⟨h, rfl⟩⟩
    · rintro ⟨s, _, h⟩
      exact ((mem_blk nd).mp h).1
theorem flat_len {α β : Type} {f : α → List β} {k : Nat} : ∀ {l : List α}, (∀ x ∈ l, (f x).length ≤ k) → (l.flatMap f).length ≤ l.length * k
  | [], _ => by simp
  | x :: l, h => by
    rw [List.flatMap_cons, List.length_append, List.length_cons, Nat.add_mul, Nat.one_mul]
    have := h x List.mem_cons_self
    have := flat_len (l := l) fun y hy => h y (List.mem_cons_of_mem _ hy)
    omega
/-! # its run -/
@[simp] theorem cont_pair {ρ : Env'} {S : Store} {q : Int × Int} : cont ρ S (.val (Z.pairD q)) = some (Z.pairD q) := rfl
theorem fit_pair (a : Int × Int) : (Z.pairD a).fit = true := by
  obtain ⟨x, y⟩ := a
  exact fit_st x y
theorem eq_pp (a b : Int × Int) : cmpD .Eq (Z.pairD a) (Z.pairD b) = some (decide (a = b)) := by
  simp only [cmpD, okEq, fit_pair, eq_pair, Bool.and_self, if_true]
  congr 1
  rw [← Bool.decide_and]
  exact decide_eq_decide.mpr ⟨fun h => Prod.ext h.1 h.2, fun h => by rw [h]; exact ⟨rfl, rfl⟩⟩
theorem pairs_of {l : List Rw} (h : ∀ r ∈ l, RowOk r) : pairsD (l.map fun r => Z.pairD r.st) = some (l.map (·.st)) := by
  induction l with
  | nil => rfl
  | cons r l ih =>
    have hr := (h r List.mem_cons_self).st
    show (if 0 ≤ r.st.1 ∧ r.st.1 < 64 ∧ 0 ≤ r.st.2 ∧ r.st.2 < 64 then (pairsD (l.map fun r => Z.pairD r.st)).map ((r.st.1, r.st.2) :: ·) else none) = _
    rw [if_pos (by omega), ih fun x hx => h x (List.mem_cons_of_mem _ hx)]
    rfl
theorem sort_ints {l : List Int} (h : l.length ≤ 1000) : bltD .sorted [.lst (l.map .int)] = some (.lst ((sortI l).map .int)) := by
  have big : (1000 : Nat) ≤ sizeLine := by decide
  show sortedD (l.map D.int) = _
  unfold sortedD
  have ok : okSort (l.map D.int) = true := by
    unfold okSort
    simp only [Bool.and_eq_true, Bool.or_eq_true, List.all_eq_true, decide_eq_true_eq]
    refine ⟨okAll_map l D.int (fun x _ => ⟨rfl, by simp [D.dep, D.py, PyData.depth], rfl⟩) fun x _ y _ => like_int x y, by rw [List.length_map]; omega, .inr fun d hd => ?_⟩
    obtain ⟨s, _, rfl⟩ := List.mem_map.mp hd
    rfl
  rw [if_pos ok]
  unfold sortD sortI
  rw [← PySem.W.sort_maps (r := fun a b : Int => decide (a ≤ b)) D.int]
  intro a _ b _
  show decide (a ≤ b) = leD (.int a) (.int b)
  unfold leD
  rw [ltD_int]
  by_cases h : a ≤ b
  · rw [decide_eq_true h, decide_eq_false (by omega)]; rfl
  · rw [decide_eq_false h, decide_eq_true (by omega)]; rfl
section
variable {St : Store} {N : Nat} {l : List Rw}
abbrev SEn (l : List Rw) (f : List Rw) (a b c : Slot) : Env' := [.fz (.lst (l.map rwD)), .fz (.lst (f.map rwD)), a, b, c]
theorem sortedI_ev (hl : l.length ≤ 6) (f : List Rw) (s : Int × Int) (b c : Slot) (no : noOwn (SEn l f (.fz (Z.pairD s)) b c) [4] = true) :
    evI (Z.run T N) (.seq (.blt .sorted (.cons (.comp (.nm 4) (.seq (.var 0)) (.cons (.cmp .Eq (.idx (.var 4) (.cst (.int 1))) (.var 2)) .nil) (.idx (.var 4) (.cst (.int 0)))) .nil))) (SEn l f (.fz (Z.pairD s)) b c) St = some (.val (.lst ((sortI (ids l s)).map .int)), (sortI (ids l s)).map .int, St) := by
  have hc := comp_h (G := Z.run T N) (t := .nm 4) (it := .seq (.var 0)) (c := .cons (.cmp .Eq (.idx (.var 4) (.cst (.int 1))) (.var 2)) .nil) (e := .idx (.var 4) (.cst (.int 0))) (ρ := SEn l f (.fz (Z.pairD s)) b c) (S := St) (S1 := St) (w := .val (.lst (l.map rwD))) (f := rwD) (xs := l) (g := fun r => if decide (r.st = s) then some (.int r.n) else none) no rfl (by simp -implicitDefEqProofs [hOf]) (fun r hr => by
    have e := eq_pp r.st s
    unfold stepC
    have wi : wipeS (SEn l f (.fz (Z.pairD s)) b c) (Tg.nm 4).ix = SEn l f (.fz (Z.pairD s)) b .un := rfl
    rw [wi]
    cases b1 : decide (r.st = s) <;> rw [b1] at e <;> simp -implicitDefEqProofs [hOf, bindT, Cst.d, rwD, atI0, atI1, e] <;> rfl) (by omega)
  have e2 : l.filterMap (fun r => if decide (r.st = s) then some (D.int r.n) else none) = (ids l s).map D.int := by
    unfold ids
    rw [List.map_map]
    clear hc hl no
    induction l with
    | nil => rfl
    | cons r l ih =>
      rw [List.filterMap_cons, List.filter_cons]
      cases decide (r.st = s)
      · exact ih
      · show D.int r.n :: _ = D.int r.n :: _
        rw [← ih]
  rw [e2] at hc
  have so := sort_ints (l := ids l s) (by unfold ids; rw [List.length_map]; have := List.length_filter_le (fun r : Rw => decide (r.st = s)) l; omega)
  simp -implicitDefEqProofs [hOf, hc, so]
theorem found_ok (hl : l.length ≤ 6) (f : List Rw) (hf : f.length ≤ 1000) (a : Slot) (n : Int) (c : Slot) (no : noOwn (SEn l f a (.fz (.int n)) c) [4] = true) :
    evSs (Z.run T N) law_sorted1b0b (SEn l f a (.fz (.int n)) c) St = some (.nxt (SEn l (f ++ atN l n) a (.fz (.int n)) c) St) := by
  have hc := comp_keeph (G := Z.run T N) (i := 4) (it := .seq (.var 0)) (c := .cmp .Eq (.idx (.var 4) (.cst (.int 0))) (.var 3)) (ρ := SEn l f a (.fz (.int n)) c) (S := St) (S1 := St) (w := .val (.lst (l.map rwD))) rwD l (fun r => decide (r.n = n)) no rfl (by simp -implicitDefEqProofs [hOf]) (by simp) (fun r hr => by
    have e := eq_ii r.n n
    simp -implicitDefEqProofs [hOf, Cst.d, rwD, atI0, e]) (by omega)
  have big : (1006 : Nat) ≤ sizeLine := by decide
  have hlen : (f.map rwD).length + ((atN l n).map rwD).length ≤ sizeLine := by
    rw [List.length_map, List.length_map]
    unfold atN
    have := List.length_filter_le (fun r : Rw => decide (r.n = n)) l
    omega
  have hadd : binD .Add (.lst (f.map rwD)) (.lst ((l.filter fun r => decide (r.n = n)).map rwD)) = some (.lst ((f ++ atN l n).map rwD)) := by
    show (if (f.map rwD).length + ((atN l n).map rwD).length ≤ sizeLine then some (D.lst (f.map rwD ++ (atN l n).map rwD)) else none) = _
    rw [if_pos hlen, List.map_append]
  simp -implicitDefEqProofs [law_sorted1b0b, law_sorted1b0b0, hOf, hc, hadd, bindT]
theorem law_sorted_ok (h : ∀ r ∈ l, RowOk r) (nd : (l.map (·.n)).Nodup) (hl : l.length ≤ 6) : runF T (N + 1) ("_law_sorted", none) [.lst (l.map rwD)] St = some (.lst ((srtR l).map rwD), St) := by
  have run : runF T (N + 1) ("_law_sorted", none) [.lst (l.map rwD)] St = (evSs (Z.run T N) law_sortedb [.fz (.lst (l.map rwD)), .un, .un, .un, .un] St).bind outR := by rw [run_def at_sorted _ St rfl]; rfl
  have q0 : evS (Z.run T N) law_sorted0 [.fz (.lst (l.map rwD)), .un, .un, .un, .un] St = some (.nxt (SEn l [] .un .un .un) St) := by
    simp -implicitDefEqProofs [law_sorted0, bindT, szs]
  have idl : ∀ s, (sortI (ids l s)).length ≤ 6 := fun s => by
    rw [sortI, List.length_mergeSort]
    unfold ids
    rw [List.length_map]
    have := List.length_filter_le (fun r : Rw => decide (r.st = s)) l
    omega
  have atl : ∀ n, (atN l n).length ≤ 6 := fun n => by
    have := List.length_filter_le (fun r : Rw => decide (r.n = n)) l
    unfold atN
    omega
  have bl : ∀ s, (blk l s).length ≤ 36 := fun s => by
    have := flat_len (f := atN l) (k := 6) (l := sortI (ids l s)) fun n _ => atl n
    have := idl s
    unfold blk
    omega
  have sl : (srtP (l.map (·.st))).length ≤ 6 := by
    have h1 : ∀ (x : Int × Int) (m : List (Int × Int)), (insP x m).length ≤ m.length + 1 := fun x m => by
      induction m with
      | nil => simp [insP]
      | cons y m ih =>
        unfold insP
        split
        · simp
        · split
          · simp
          · simp; omega
    have h2 : ∀ m : List (Int × Int), (srtP m).length ≤ m.length := fun m => by
      induction m with
      | nil => simp [srtP]
      | cons y m ih =>
        show (insP y (srtP m)).length ≤ _
        have := h1 y (srtP m)
        simp; omega
    have := h2 (l.map (·.st))
    rw [List.length_map] at this
    omega
  have hmap := comp_maph (G := Z.run T N) (t := .nm 4) (it := .seq (.var 0)) (e := .idx (.var 4) (.cst (.int 1))) (ρ := SEn l [] .un .un .un) (S := St) (S1 := St) (w := .val (.lst (l.map rwD))) rwD l (fun r => Z.pairD r.st) rfl rfl (by simp -implicitDefEqProofs [hOf]) (fun r hr => by
    refine ⟨[.fz (.lst (l.map rwD)), .fz (.lst []), .un, .un, .fz (rwD r)], rfl, ?_⟩
    simp -implicitDefEqProofs [hOf, Cst.d, rwD, atI1]) (by omega)
  have hsst : sstD (.lst (l.map fun r => Z.pairD r.st)) = some (.lst ((srtP (l.map (·.st))).map Z.pairD)) := by
    show (if (l.map fun r => Z.pairD r.st).length < 64 then _ else none) = _
    rw [if_pos (by rw [List.length_map]; omega), pairs_of h]; rfl
  have hi : evI (Z.run T N) (.seq (.sst (.comp (.nm 4) (.seq (.var 0)) .nil (.idx (.var 4) (.cst (.int 1)))))) (SEn l [] .un .un .un) St = some (.val (.lst ((srtP (l.map (·.st))).map Z.pairD)), (srtP (l.map (·.st))).map Z.pairD, St) := by
    simp -implicitDefEqProofs [hOf, hmap, hsst]
  obtain ⟨ρ', S', e, ⟨a, b, c, rfl, _⟩, rfl⟩ := for_map (G := Z.run T N) (t := .nm 2) (b := law_sorted1b) Z.pairD (srtP (l.map (·.st))) (fun p ρ S => (∃ a b c, ρ = SEn l (p.flatMap (blk l)) a b c ∧ noOwn (SEn l (p.flatMap (blk l)) a b c) [4] = true) ∧ S = St) (fun n z => by cases z) hi ⟨⟨.un, .un, .un, rfl, rfl⟩, rfl⟩ (fun p s q hq ρ S hp => by
    obtain ⟨⟨a, b, c, rfl, no⟩, rfl⟩ := hp
    have bt : bindT (.nm 2) (Z.pairD s) (SEn l (p.flatMap (blk l)) a b c) = some (SEn l (p.flatMap (blk l)) (.fz (Z.pairD s)) b c) := rfl
    have no' : ∀ (f : List Rw) (a b : Slot), noOwn (SEn l f a b c) [4] = true := fun f a b => by cases c <;> first | rfl | exact no
    have hi2 := sortedI_ev (N := N) (St := S) hl (p.flatMap (blk l)) s b c (no' _ _ _)
    have hp36 := flat_len (f := blk l) (k := 36) (l := p) fun n _ => bl n
    have pl : p.length + 1 ≤ 6 := by
      have := congrArg List.length hq
      rw [List.length_append, List.length_cons] at this
      omega
    obtain ⟨ρ', S', e, ⟨b2, rfl⟩, rfl⟩ := for_map (G := Z.run T N) (t := .nm 3) (b := law_sorted1b0b) D.int (sortI (ids l s)) (fun u ρ S' => (∃ b, ρ = SEn l (p.flatMap (blk l) ++ u.flatMap (atN l)) (.fz (Z.pairD s)) b c) ∧ S' = S) (fun n z => by cases z) hi2 ⟨⟨b, by simp⟩, rfl⟩ (fun u n v hu ρ S2 hp2 => by
      obtain ⟨⟨b2, rfl⟩, rfl⟩ := hp2
      have bt2 : bindT (.nm 3) (.int n) (SEn l (p.flatMap (blk l) ++ u.flatMap (atN l)) (.fz (Z.pairD s)) b2 c) = some (SEn l (p.flatMap (blk l) ++ u.flatMap (atN l)) (.fz (Z.pairD s)) (.fz (.int n)) c) := rfl
      have hu6 := flat_len (f := atN l) (k := 6) (l := u) fun n _ => atl n
      have ul : u.length ≤ 6 := by
        have := congrArg List.length hu
        rw [List.length_append, List.length_cons] at this
        have := idl s
        omega
      have ff := found_ok (N := N) (St := S2) hl (p.flatMap (blk l) ++ u.flatMap (atN l)) (by rw [List.length_append]; omega) (.fz (Z.pairD s)) n c (no' _ _ _)
      exact ⟨_, _, _, bt2, ff, ⟨_, by rw [List.flatMap_append, List.flatMap_cons, List.flatMap_nil, List.append_nil, List.append_assoc]⟩, rfl⟩)
    refine ⟨_, SEn l ((p ++ [s]).flatMap (blk l)) (.fz (Z.pairD s)) b2 c, S', bt, ?_, ⟨_, _, _, rfl, no' _ _ _⟩, rfl⟩
    have e : evS (Z.run T N) law_sorted1b0 (SEn l (p.flatMap (blk l)) (.fz (Z.pairD s)) b c) S' = _ := e
    rw [law_sorted1b, seq1 e]
    rw [List.flatMap_append, List.flatMap_cons, List.flatMap_nil, List.append_nil]
    exact x_evSs_nil)
  have e : evS (Z.run T N) law_sorted1 (SEn l [] .un .un .un) S' = some (.nxt (SEn l (lawS l) a b c) S') := e
  rw [run, law_sortedb, seq1 q0, seq1 e, lawS_eq nd]
  simp -implicitDefEqProofs [law_sorted2]
  rfl
end
end K51

set_option Elab.async false
set_option linter.all false
set_option maxRecDepth 100000
set_option maxHeartbeats 2000000
namespace K51
open PySem PySem.Spec PyProof.Rows L2 Z Wt
open Tb (Rd Wnt)
theorem i_g : cmpD .In (.str "get") (.lst [.str "get", .str "scan"]) = some true := by decide +kernel
theorem i_s : cmpD .In (.str "scan") (.lst [.str "get", .str "scan"]) = some true := by decide +kernel
theorem i_p : cmpD .In (.str "put") (.lst [.str "get", .str "scan"]) = some false := by decide +kernel
theorem i_d : cmpD .In (.str "delete") (.lst [.str "get", .str "scan"]) = some false := by decide +kernel
theorem ge_ss (a b : Str) (ha : PyData.strOk a = true) (hb : PyData.strOk b = true) : cmpD .GtE (.str b) (.str a) = some (leS a b) := by
  simp only [cmpD, okLt, Z.fit_str, ha, hb, like_str, D.isNon, ltD_str, leS, Bool.not_false, Bool.and_self, if_true]
section
variable {St : Store} {N st c m : Nat} {kp : Kp}
theorem lshould_ok (h : St[m]? = some (.con (.dK (kpD kp)))) (ok : KpOk kp) {o : Op} (ho : OpOk o) : runF T (N + 1) ("_law_should", none) [.ref m, opD o] St = some (anD (should kp o), St) := by
  rw [run_def at_should _ St rfl]
  show (evSs (Z.run T N) law_shouldb [.fz (.ref m), .fz (opD o), .un] St).bind outR = _
  cases o with
  | get k =>
    have e := kp_get kp k
    simp -implicitDefEqProofs [law_shouldb, law_should0, hOf, Cst.d, opD, atI0, atI1, c_gg, h, isDct, e]
    show (outR (.ret ((Option.map D.str (look kp k)).getD .non) St)) = some (anD (match look kp k with
      | some v => .tx v
      | none => .no), St)
    cases look kp k <;> rfl
  | scan x y =>
    obtain ⟨⟨p1, _⟩, p2, _⟩ := sps_ok _ ho
    have ks := kp_keys kp ok.len
    have q0 : evS (Z.run T N) law_should0 [.fz (.ref m), .fz (opD (.scan x y)), .un] St = some (.nxt [.fz (.ref m), .fz (opD (.scan x y)), .un] St) := by
      simp -implicitDefEqProofs [law_should0, hOf, Cst.d, opD, atI0, c_sg]
    have hi : evI (Z.run T N) (.seq (.blt .sorted (.cons (.var 0) .nil))) [.fz (.ref m), .fz (opD (.scan x y)), .un] St = some (.val (.lst ((keysS kp).map .str)), (keysS kp).map .str, St) := by
      simp -implicitDefEqProofs [hOf, h, ks]
    have hc := comp_h (G := Z.run T N) (t := .nm 2) (c := .cons (.and (.cmp .GtE (.var 2) (.idx (.idx (.var 1) (.cst (.int 1))) (.cst (.int 0)))) (.cmp .Lt (.var 2) (.idx (.idx (.var 1) (.cst (.int 1))) (.cst (.int 1))))) .nil) (e := .tup (.cons (.var 2) (.cons (.idx (.var 0) (.var 2)) .nil))) (ρ := [.fz (.ref m), .fz (opD (.scan x y)), .un]) (S := St) (S1 := St) (f := D.str) (xs := keysS kp) (g := fun k => if leS x k && ltS k y then some (ssD (rowK kp k)) else none) rfl rfl hi (fun k hk => by
      obtain ⟨r1, r2, r3⟩ := rowK_ok ok hk
      have sk : PyData.strOk k = true := (keys_ok k r1).1
      have g1 := ge_ss x k p1 sk
      have g2 := lt_ss k y sk p2
      have g3 := kp_idx ok hk
      have l2 : (2 : Nat) ≤ sizeLine := by decide
      unfold stepC
      have wi : wipeS [.fz (.ref m), .fz (opD (.scan x y)), .un] (Tg.nm 2).ix = [.fz (.ref m), .fz (opD (.scan x y)), .un] := rfl
      rw [wi]
      cases b1 : leS x k <;> cases b2 : ltS k y <;> rw [b1] at g1 <;> rw [b2] at g2 <;> simp -implicitDefEqProofs [hOf, bindT, Cst.d, opD, atI0, atI1, g1, g2, h, g3, l2] <;> rfl) (by
        rw [keysS_len]
        have := ok.len
        have : (4 : Nat) ≤ sizeLine := by decide
        omega)
    have e2 : (keysS kp).filterMap (fun k => if leS x k && ltS k y then some (ssD (rowK kp k)) else none) = (scn kp x y).map ssD := by
      unfold scn
      rw [List.map_map]
      generalize keysS kp = l
      induction l with
      | nil => rfl
      | cons k l ih =>
        rw [List.filterMap_cons, List.filter_cons]
        cases leS x k && ltS k y
        · exact ih
        · show ssD (rowK kp k) :: _ = ssD (rowK kp k) :: _
          rw [← ih]
    rw [e2] at hc
    have sc : cmpD .Eq (.str "scan") (.str "scan") = some true := c_ss
    rw [law_shouldb, seq1 q0]
    rw [opD] at hc ⊢
    simp -implicitDefEqProofs [law_should1, hOf, Cst.d, atI0, c_ss, hc]
    rfl
  | put k v =>
    simp -implicitDefEqProofs [law_shouldb, law_should0, law_should1, law_should2, hOf, Cst.d, opD, atI0, c_pg, c_ps]
    rfl
  | del k =>
    simp -implicitDefEqProofs [law_shouldb, law_should0, law_should1, law_should2, hOf, Cst.d, opD, atI0, c_dg, c_ds]
    rfl
/-! # one turn -/
structure Tst (S : Store) (st c m : Nat) (kp : Kp) : Prop where
  rd : Rd S st c
  k : S[m]? = some (.con (.dK (kpD kp)))
  n1 : m ≠ st
  n2 : m ≠ c
theorem Tst.wnt {S S' : Store} (h : Tst S st c m kp) (w : Wnt st c S S') : Tst S' st c m kp := ⟨w.1, by rw [w.2.2 m h.n1 h.n2]; exact h.k, h.n1, h.n2⟩
theorem Rnd_of {S S' : Store} {pos : Int} {cs : List Int} (R : Rnd S st c pos cs) (h1 : S'[st]? = S[st]?) (h2 : S'[c]? = S[c]?) : Rnd S' st c pos cs := { R with
  at_ := by rw [h1]; exact R.at_
  row := by rw [h2]; exact R.row }
theorem Tst.put {S : Store} (h : Tst S st c m kp) (kp' : Kp) : Tst (S.set m (.con (.dK (kpD kp')))) st c m kp' := by
  obtain ⟨pos, cs, R⟩ := h.rd
  exact ⟨⟨pos, cs, Rnd_of R (List.getElem?_set_ne h.n1) (List.getElem?_set_ne h.n2)⟩, List.getElem?_set_self (List.getElem?_eq_some_iff.mp h.k).1, h.n1, h.n2⟩
abbrev TEn (st m : Nat) (rows td wr n s d mr k op an r kk : Slot) : Env' := [.fz (.ref st), rows, .fz (.ref m), td, wr, n, s, d, mr, k, op, an, r, kk]
/-- told otherwise already, or now -/
def orW (w : Option (Int × Int)) (b : Bool) (x : Int × Int) : Option (Int × Int) := match w with
  | some w => some w
  | none => if b then some x else none
theorem iso_wo (w : Option (Int × Int)) : isoD (woD w) false .non = some (.bl w.isNone) := by cases w <;> rfl
@[simp] theorem cont_wo {ρ : Env'} {S : Store} {w : Option (Int × Int)} : cont ρ S (.val (woD w)) = some (woD w) := by cases w <;> rfl
theorem turn_ok (h : Tst St st c m kp) (ok : KpOk kp) {did : List (Op × An)} {k : Nat} {o : Op} {a0 : An} (hk : did[k]? = some (o, a0)) (ho : OpOk o) (mo : List (Op × An)) (hmo : mo.length ≤ 5) (w : Option (Int × Int)) (nn : Int) (rows td s x10 x11 x12 x13 : Slot) :
    ∃ (a : An) (S' : Store), AnOk a ∧ Tst S' st c m (upd kp o) ∧
      evSs (Z.run T (N + 1)) law_told3b1b (TEn st m rows td (.fz (woD w)) (.fz (.int nn)) s (.fz (.lst (did.map odD))) (.own (.lst (mo.map odD))) (.fz (.int (k : Int))) x10 x11 x12 x13) St = some (.nxt (TEn st m rows td (.fz (woD (orW w (o.look && !decide (should kp o = a)) (nn, (k : Int))))) (.fz (.int nn)) s (.fz (.lst (did.map odD))) (.own (.lst ((mo ++ [(o, a)]).map odD))) (.fz (.int (k : Int))) (.fz (opD o)) (.fz (anD a)) x12 x13) S') := by
  have sz := szs
  have hd : k < did.length := (List.getElem?_eq_some_iff.mp hk).1
  have e1 : atI (did.map odD) (k : Int) = some (odD (o, a0)) := by
    rw [Z.atI_nat (by rw [List.length_map]; exact hd), List.getElem?_map, hk]; rfl
  have q0 : evS (Z.run T (N + 1)) law_told3b1b0 (TEn st m rows td (.fz (woD w)) (.fz (.int nn)) s (.fz (.lst (did.map odD))) (.own (.lst (mo.map odD))) (.fz (.int (k : Int))) x10 x11 x12 x13) St = some (.nxt (TEn st m rows td (.fz (woD w)) (.fz (.int nn)) s (.fz (.lst (did.map odD))) (.own (.lst (mo.map odD))) (.fz (.int (k : Int))) (.fz (opD o)) x11 x12 x13) St) := by
    simp -implicitDefEqProofs [law_told3b1b0, hOf, Cst.d, e1, odD, atI0, bindT]
  have es := lshould_ok (N := N) h.k ok ho
  have q1 : evS (Z.run T (N + 1)) law_told3b1b1 (TEn st m rows td (.fz (woD w)) (.fz (.int nn)) s (.fz (.lst (did.map odD))) (.own (.lst (mo.map odD))) (.fz (.int (k : Int))) (.fz (opD o)) x11 x12 x13) St = some (.nxt (TEn st m rows td (.fz (woD w)) (.fz (.int nn)) s (.fz (.lst (did.map odD))) (.own (.lst (mo.map odD))) (.fz (.int (k : Int))) (.fz (opD o)) (.fz (anD (should kp o))) x12 x13) St) := by
    simp -implicitDefEqProofs [law_told3b1b1, hOf, es, bindT]
  -- the answer
  have q2 : ∃ (a : An) (S' : Store), AnOk a ∧ (o.look = false → a = should kp o) ∧ Wnt st c St S' ∧ evS (Z.run T (N + 1)) law_told3b1b2 (TEn st m rows td (.fz (woD w)) (.fz (.int nn)) s (.fz (.lst (did.map odD))) (.own (.lst (mo.map odD))) (.fz (.int (k : Int))) (.fz (opD o)) (.fz (anD (should kp o))) x12 x13) St = some (.nxt (TEn st m rows td (.fz (woD w)) (.fz (.int nn)) s (.fz (.lst (did.map odD))) (.own (.lst (mo.map odD))) (.fz (.int (k : Int))) (.fz (opD o)) (.fz (anD a)) x12 x13) S') := by
    have key : ∀ (tag : Str) (xs : List D), opD o = .tup (.str tag :: xs) → cmpD .In (.str tag) (.lst [.str "get", .str "scan"]) = some true → ∃ (a : An) (S' : Store), AnOk a ∧ Wnt st c St S' ∧ evS (Z.run T (N + 1)) law_told3b1b2 (TEn st m rows td (.fz (woD w)) (.fz (.int nn)) s (.fz (.lst (did.map odD))) (.own (.lst (mo.map odD))) (.fz (.int (k : Int))) (.fz (opD o)) (.fz (anD (should kp o))) x12 x13) St = some (.nxt (TEn st m rows td (.fz (woD w)) (.fz (.int nn)) s (.fz (.lst (did.map odD))) (.own (.lst (mo.map odD))) (.fz (.int (k : Int))) (.fz (opD o)) (.fz (anD a)) x12 x13) S') := fun tag xs eo hin => by
      obtain ⟨v, S1, e2, v0, v1, w1⟩ := tk (N := N) h.rd 8 (by decide) (by decide)
      have c8 := eq_ii v 0
      by_cases hv : v = 0
      · obtain ⟨u, S2, e3, u0, u1, w2⟩ := tk (N := N) w1.1 3 (by decide) (by decide)
        obtain ⟨a, ha, ea⟩ := Z.atI_in (f := anD) (xs := [An.tx "z", An.no, An.rw []]) (v := u) ⟨u0, by simp; omega⟩
        have ea : atI ([.str "z", .non, .lst []] : List D) u = some (anD a) := ea
        refine ⟨a, S2, ?_, w1.trans w2, ?_⟩
        · simp at ha
          rcases ha with rfl | rfl | rfl
          · show ("z" : Str) ∈ Wt.vals4
            simp [Wt.vals4]
          · trivial
          · exact ⟨by simp, by simp⟩
        · simp [hv] at c8
          rw [hv] at e2
          rw [eo]
          simp -implicitDefEqProofs [law_told3b1b2, hOf, Cst.d, atI0, hin, sz, e2, c8, e3, ea, bindT]
      · refine ⟨should kp o, S1, should_ok ok o, w1, ?_⟩
        simp [hv] at c8
        rw [eo]
        simp -implicitDefEqProofs [law_told3b1b2, hOf, Cst.d, atI0, hin, sz, e2, c8]
    have kf : ∀ (tag : Str) (xs : List D), opD o = .tup (.str tag :: xs) → cmpD .In (.str tag) (.lst [.str "get", .str "scan"]) = some false → evS (Z.run T (N + 1)) law_told3b1b2 (TEn st m rows td (.fz (woD w)) (.fz (.int nn)) s (.fz (.lst (did.map odD))) (.own (.lst (mo.map odD))) (.fz (.int (k : Int))) (.fz (opD o)) (.fz (anD (should kp o))) x12 x13) St = some (.nxt (TEn st m rows td (.fz (woD w)) (.fz (.int nn)) s (.fz (.lst (did.map odD))) (.own (.lst (mo.map odD))) (.fz (.int (k : Int))) (.fz (opD o)) (.fz (anD (should kp o))) x12 x13) St) := fun tag xs eo hin => by
      rw [eo]
      simp -implicitDefEqProofs [law_told3b1b2, hOf, Cst.d, atI0, hin, sz]
    cases o with
    | get x => obtain ⟨a, S', h1, h2, h3⟩ := key _ _ rfl i_g; exact ⟨a, S', h1, fun z => (by cases z), h2, h3⟩
    | scan x y => obtain ⟨a, S', h1, h2, h3⟩ := key _ _ rfl i_s; exact ⟨a, S', h1, fun z => (by cases z), h2, h3⟩
    | put x y => exact ⟨_, St, should_ok ok _, fun _ => rfl, Wnt.refl h.rd, kf _ _ rfl i_p⟩
    | del x => exact ⟨_, St, should_ok ok _, fun _ => rfl, Wnt.refl h.rd, kf _ _ rfl i_d⟩
  obtain ⟨a, S1, hA, hno, w1, q2⟩ := q2
  have h1 := h.wnt w1
  have es1 := lshould_ok (N := N) h1.k ok ho
  have ng := ne_an hA (should_ok ok o)
  have dsym : decide (a = should kp o) = decide (should kp o = a) := decide_eq_decide.mpr ⟨Eq.symm, Eq.symm⟩
  rw [dsym] at ng
  have iw := iso_wo w
  have q3 : evS (Z.run T (N + 1)) law_told3b1b3 (TEn st m rows td (.fz (woD w)) (.fz (.int nn)) s (.fz (.lst (did.map odD))) (.own (.lst (mo.map odD))) (.fz (.int (k : Int))) (.fz (opD o)) (.fz (anD a)) x12 x13) S1 = some (.nxt (TEn st m rows td (.fz (woD (orW w (o.look && !decide (should kp o = a)) (nn, (k : Int))))) (.fz (.int nn)) s (.fz (.lst (did.map odD))) (.own (.lst (mo.map odD))) (.fz (.int (k : Int))) (.fz (opD o)) (.fz (anD a)) x12 x13) S1) := by
    have key : ∀ (tag : Str) (xs : List D), opD o = .tup (.str tag :: xs) → cmpD .In (.str tag) (.lst [.str "get", .str "scan"]) = some true → o.look = true → _ := fun tag xs eo hin hl => by
      show evS (Z.run T (N + 1)) law_told3b1b3 (TEn st m rows td (.fz (woD w)) (.fz (.int nn)) s (.fz (.lst (did.map odD))) (.own (.lst (mo.map odD))) (.fz (.int (k : Int))) (.fz (opD o)) (.fz (anD a)) x12 x13) S1 = some (.nxt (TEn st m rows td (.fz (woD (orW w (o.look && !decide (should kp o = a)) (nn, (k : Int))))) (.fz (.int nn)) s (.fz (.lst (did.map odD))) (.own (.lst (mo.map odD))) (.fz (.int (k : Int))) (.fz (opD o)) (.fz (anD a)) x12 x13) S1)
      rw [hl, Bool.true_and]
      rw [eo] at es1 ⊢
      cases b1 : decide (should kp o = a)
      · rw [b1] at ng
        cases w with
        | none =>
          simp -implicitDefEqProofs [law_told3b1b3, hOf, Cst.d, atI0, hin, sz, es1, ng, iw, bindT, orW]
          rfl
        | some w => simp -implicitDefEqProofs [law_told3b1b3, hOf, Cst.d, atI0, hin, sz, es1, ng, iw, orW]
      · rw [b1] at ng
        simp -implicitDefEqProofs [law_told3b1b3, hOf, Cst.d, atI0, hin, sz, es1, ng, orW]
        cases w <;> rfl
    have kf : ∀ (tag : Str) (xs : List D), opD o = .tup (.str tag :: xs) → cmpD .In (.str tag) (.lst [.str "get", .str "scan"]) = some false → o.look = false → evS (Z.run T (N + 1)) law_told3b1b3 (TEn st m rows td (.fz (woD w)) (.fz (.int nn)) s (.fz (.lst (did.map odD))) (.own (.lst (mo.map odD))) (.fz (.int (k : Int))) (.fz (opD o)) (.fz (anD a)) x12 x13) S1 = some (.nxt (TEn st m rows td (.fz (woD (orW w (o.look && !decide (should kp o = a)) (nn, (k : Int))))) (.fz (.int nn)) s (.fz (.lst (did.map odD))) (.own (.lst (mo.map odD))) (.fz (.int (k : Int))) (.fz (opD o)) (.fz (anD a)) x12 x13) S1) := fun tag xs eo hin hl => by
      rw [hl, Bool.false_and, eo]
      simp -implicitDefEqProofs [law_told3b1b3, hOf, Cst.d, atI0, hin, sz, orW]
      cases w <;> rfl
    cases o with
    | get x => exact key _ _ rfl i_g rfl
    | scan x y => exact key _ _ rfl i_s rfl
    | put x y => exact kf _ _ rfl i_p rfl
    | del x => exact kf _ _ rfl i_d rfl
  refine ⟨a, S1.set m (.con (.dK (kpD (upd kp o)))), hA, h1.put _, ?_⟩
  generalize orW w (o.look && !decide (should kp o = a)) (nn, (k : Int)) = w' at q3 ⊢
  have hl : (mo.map odD).length < sizeLine := by rw [List.length_map]; omega
  have q4 : ∀ (St : Store) , evS (Z.run T (N + 1)) law_told3b1b6 (TEn st m rows td (.fz (woD w')) (.fz (.int nn)) s (.fz (.lst (did.map odD))) (.own (.lst (mo.map odD))) (.fz (.int (k : Int))) (.fz (opD o)) (.fz (anD a)) x12 x13) St = some (.nxt (TEn st m rows td (.fz (woD w')) (.fz (.int nn)) s (.fz (.lst (did.map odD))) (.own (.lst ((mo ++ [(o, a)]).map odD))) (.fz (.int (k : Int))) (.fz (opD o)) (.fz (anD a)) x12 x13) St) := fun St => by
    rw [List.length_map] at hl
    simp -implicitDefEqProofs [law_told3b1b6, hOf, isLst, hl, sz, putC]
    rfl
  have idS : ∀ kp', kp' = kp → S1.set m (.con (.dK (kpD kp'))) = S1 := fun kp' e => by
    rw [e]
    exact set_id h1.k
  rw [law_told3b1b, seq1 q0, seq1 q1, seq1 q2, seq1 q3]
  have hk1 := h1.k
  cases o with
  | get x =>
    have q5 : evS (Z.run T (N + 1)) law_told3b1b4 (TEn st m rows td (.fz (woD w')) (.fz (.int nn)) s (.fz (.lst (did.map odD))) (.own (.lst (mo.map odD))) (.fz (.int (k : Int))) (.fz (opD (.get x))) (.fz (anD a)) x12 x13) S1 = some (.nxt (TEn st m rows td (.fz (woD w')) (.fz (.int nn)) s (.fz (.lst (did.map odD))) (.own (.lst (mo.map odD))) (.fz (.int (k : Int))) (.fz (opD (.get x))) (.fz (anD a)) x12 x13) S1) := by
      simp -implicitDefEqProofs [law_told3b1b4, hOf, Cst.d, opD, atI0, c_gp]
    have q6 : evS (Z.run T (N + 1)) law_told3b1b5 (TEn st m rows td (.fz (woD w')) (.fz (.int nn)) s (.fz (.lst (did.map odD))) (.own (.lst (mo.map odD))) (.fz (.int (k : Int))) (.fz (opD (.get x))) (.fz (anD a)) x12 x13) S1 = some (.nxt (TEn st m rows td (.fz (woD w')) (.fz (.int nn)) s (.fz (.lst (did.map odD))) (.own (.lst (mo.map odD))) (.fz (.int (k : Int))) (.fz (opD (.get x))) (.fz (anD a)) x12 x13) S1) := by
      simp -implicitDefEqProofs [law_told3b1b5, hOf, Cst.d, opD, atI0, c_gd]
    rw [seq1 q5, seq1 q6, seq1 (q4 S1), idS (upd kp _) rfl]
    exact x_evSs_nil
  | scan x y =>
    have q5 : evS (Z.run T (N + 1)) law_told3b1b4 (TEn st m rows td (.fz (woD w')) (.fz (.int nn)) s (.fz (.lst (did.map odD))) (.own (.lst (mo.map odD))) (.fz (.int (k : Int))) (.fz (opD (.scan x y))) (.fz (anD a)) x12 x13) S1 = some (.nxt (TEn st m rows td (.fz (woD w')) (.fz (.int nn)) s (.fz (.lst (did.map odD))) (.own (.lst (mo.map odD))) (.fz (.int (k : Int))) (.fz (opD (.scan x y))) (.fz (anD a)) x12 x13) S1) := by
      simp -implicitDefEqProofs [law_told3b1b4, hOf, Cst.d, opD, atI0, c_sp]
    have q6 : evS (Z.run T (N + 1)) law_told3b1b5 (TEn st m rows td (.fz (woD w')) (.fz (.int nn)) s (.fz (.lst (did.map odD))) (.own (.lst (mo.map odD))) (.fz (.int (k : Int))) (.fz (opD (.scan x y))) (.fz (anD a)) x12 x13) S1 = some (.nxt (TEn st m rows td (.fz (woD w')) (.fz (.int nn)) s (.fz (.lst (did.map odD))) (.own (.lst (mo.map odD))) (.fz (.int (k : Int))) (.fz (opD (.scan x y))) (.fz (anD a)) x12 x13) S1) := by
      simp -implicitDefEqProofs [law_told3b1b5, hOf, Cst.d, opD, atI0, c_sd]
    rw [seq1 q5, seq1 q6, seq1 (q4 S1), idS (upd kp _) rfl]
    exact x_evSs_nil
  | put x y =>
    have ep := kp_put kp x y ok.len
    have q5 : evS (Z.run T (N + 1)) law_told3b1b4 (TEn st m rows td (.fz (woD w')) (.fz (.int nn)) s (.fz (.lst (did.map odD))) (.own (.lst (mo.map odD))) (.fz (.int (k : Int))) (.fz (opD (.put x y))) (.fz (anD a)) x12 x13) S1 = some (.nxt (TEn st m rows td (.fz (woD w')) (.fz (.int nn)) s (.fz (.lst (did.map odD))) (.own (.lst (mo.map odD))) (.fz (.int (k : Int))) (.fz (opD (.put x y))) (.fz (anD a)) x12 x13) (S1.set m (.con (.dK (kpD (dput kp x y)))))) := by
      simp -implicitDefEqProofs [law_told3b1b4, hOf, Cst.d, opD, atI0, atI1, atI2, c_pp, hk1, ep, putC, setC]
    have q6 : ∀ S1, evS (Z.run T (N + 1)) law_told3b1b5 (TEn st m rows td (.fz (woD w')) (.fz (.int nn)) s (.fz (.lst (did.map odD))) (.own (.lst (mo.map odD))) (.fz (.int (k : Int))) (.fz (opD (.put x y))) (.fz (anD a)) x12 x13) S1 = some (.nxt (TEn st m rows td (.fz (woD w')) (.fz (.int nn)) s (.fz (.lst (did.map odD))) (.own (.lst (mo.map odD))) (.fz (.int (k : Int))) (.fz (opD (.put x y))) (.fz (anD a)) x12 x13) S1) := fun S1 => by
      simp -implicitDefEqProofs [law_told3b1b5, hOf, Cst.d, opD, atI0, c_pd]
    rw [seq1 q5, seq1 (q6 _), seq1 (q4 _)]
    exact x_evSs_nil
  | del x =>
    obtain ⟨v, ep⟩ := kp_pop kp x
    have q5 : evS (Z.run T (N + 1)) law_told3b1b4 (TEn st m rows td (.fz (woD w')) (.fz (.int nn)) s (.fz (.lst (did.map odD))) (.own (.lst (mo.map odD))) (.fz (.int (k : Int))) (.fz (opD (.del x))) (.fz (anD a)) x12 x13) S1 = some (.nxt (TEn st m rows td (.fz (woD w')) (.fz (.int nn)) s (.fz (.lst (did.map odD))) (.own (.lst (mo.map odD))) (.fz (.int (k : Int))) (.fz (opD (.del x))) (.fz (anD a)) x12 x13) S1) := by
      simp -implicitDefEqProofs [law_told3b1b4, hOf, Cst.d, opD, atI0, c_dp]
    have q6 : evS (Z.run T (N + 1)) law_told3b1b5 (TEn st m rows td (.fz (woD w')) (.fz (.int nn)) s (.fz (.lst (did.map odD))) (.own (.lst (mo.map odD))) (.fz (.int (k : Int))) (.fz (opD (.del x))) (.fz (anD a)) x12 x13) S1 = some (.nxt (TEn st m rows td (.fz (woD w')) (.fz (.int nn)) s (.fz (.lst (did.map odD))) (.own (.lst (mo.map odD))) (.fz (.int (k : Int))) (.fz (opD (.del x))) (.fz (anD a)) x12 x13) (S1.set m (.con (.dK (kpD (ddrop kp x)))))) := by
      simp -implicitDefEqProofs [law_told3b1b5, hOf, Cst.d, opD, atI0, atI1, c_dd, hk1, ep, putC, setC, isLst, isDct]
    rw [seq1 q5, seq1 q6, seq1 (q4 _)]
    exact x_evSs_nil
end
end K51

set_option Elab.async false
set_option linter.all false
set_option maxRecDepth 100000
set_option maxHeartbeats 2000000
namespace K51
open PySem PySem.Spec PyProof.Rows L2 Z Wt
open Tb (Rd Wnt)
def elW (w v : Option (Int × Int)) : Option (Int × Int) := match w with
  | some w => some w
  | none => v
theorem orW_wr1 (kp : Kp) (w : Option (Int × Int)) (n : Int) (mo : List (Op × An)) (x : Op × An) (h : mo.length = mo.length) : orW (elW w (wr1 kp n 0 mo)) (x.1.look && !decide (should (kp1 kp mo) x.1 = x.2)) (n, (mo.length : Int)) = elW w (wr1 kp n 0 (mo ++ [x])) := by
  cases w with
  | some w => rfl
  | none =>
    simp only [elW]
    rw [wr1_app]
    cases wr1 kp n 0 mo with
    | some w => rfl
    | none =>
      simp only [Nat.zero_add, wr1, orW]
section
variable {St : Store} {N st c m : Nat} {kp : Kp}
theorem inner_ok (h : Tst St st c m kp) (ok : KpOk kp) {did : List (Op × An)} (hd : did.length ≤ 5 ∧ ∀ x ∈ did, OpOk x.1 ∧ AnOk x.2) (w : Option (Int × Int)) (nn : Int) (rows td s x9 x10 x11 x12 x13 : Slot) :
    ∃ (mo : List (Op × An)) (S' : Store) (y9 y10 y11 : Slot), mo.length ≤ 5 ∧ (∀ x ∈ mo, OpOk x.1 ∧ AnOk x.2) ∧ Tst S' st c m (kp1 kp mo) ∧
      evS (Z.run T (N + 1)) law_told3b1 (TEn st m rows td (.fz (woD w)) (.fz (.int nn)) s (.fz (.lst (did.map odD))) (.own (.lst [])) x9 x10 x11 x12 x13) St = some (.nxt (TEn st m rows td (.fz (woD (elW w (wr1 kp nn 0 mo)))) (.fz (.int nn)) s (.fz (.lst (did.map odD))) (.own (.lst (mo.map odD))) y9 y10 y11 x12 x13) S') := by
  have hi : evI (Z.run T (N + 1)) (.rng (.blt .len (.cons (.var 7) .nil))) (TEn st m rows td (.fz (woD w)) (.fz (.int nn)) s (.fz (.lst (did.map odD))) (.own (.lst [])) x9 x10 x11 x12 x13) St = some (.val .non, (List.range did.length).map (fun j : Nat => D.int ((j : Nat) : Int)), St) := by
    have := Wt.rng_ev (G := Z.run T (N + 1)) (e := .blt .len (.cons (.var 7) .nil)) (ρ := TEn st m rows td (.fz (woD w)) (.fz (.int nn)) s (.fz (.lst (did.map odD))) (.own (.lst [])) x9 x10 x11 x12 x13) (S := St) (S1 := St) (v := (did.length : Int)) (by simp -implicitDefEqProofs [hOf]) (by omega)
    simpa using this
  obtain ⟨ρ', S', e, mo, y9, y10, y11, rfl, hlen, hops, hmo, ht⟩ := for_map (G := Z.run T (N + 1)) (t := .nm 9) (b := law_told3b1b) (fun j : Nat => D.int ((j : Nat) : Int)) (List.range did.length)
    (fun p ρ S => ∃ (mo : List (Op × An)) (y9 y10 y11 : Slot), ρ = TEn st m rows td (.fz (woD (elW w (wr1 kp nn 0 mo)))) (.fz (.int nn)) s (.fz (.lst (did.map odD))) (.own (.lst (mo.map odD))) y9 y10 y11 x12 x13 ∧ mo.length = p.length ∧ mo.map (·.1) = (did.take p.length).map (·.1) ∧ (∀ x ∈ mo, OpOk x.1 ∧ AnOk x.2) ∧ Tst S st c m (kp1 kp mo)) (fun n z => by cases z) hi ⟨[], x9, x10, x11, by cases w <;> rfl, rfl, rfl, by simp, h⟩ (fun p k q hq ρ S hp => by
      obtain ⟨mo, y9, y10, y11, rfl, hlen, hops, hmo, ht⟩ := hp
      obtain ⟨rfl, hk⟩ := range_split hq
      have hx := List.getElem?_eq_getElem hk
      generalize did[p.length] = x at hx
      obtain ⟨o, a0⟩ := x
      have ho := (hd.2 _ (List.mem_of_getElem? hx)).1
      have okm := ok.kp1 (l := mo) hmo
      obtain ⟨a, S', hA, t', e⟩ := turn_ok (N := N) ht okm hx ho mo (by omega) (elW w (wr1 kp nn 0 mo)) nn rows td s y10 y11 x12 x13
      refine ⟨_, _, S', rfl, e, mo ++ [(o, a)], .fz (.int (p.length : Int)), .fz (opD o), .fz (anD a), ?_, by simp [hlen], ?_, ?_, ?_⟩
      · rw [← hlen, orW_wr1 kp w nn mo (o, a) rfl]
      · rw [List.length_append, List.length_singleton, take_at hx, List.map_append, List.map_append, hops]
        rfl
      · intro y hy
        rcases List.mem_append.mp hy with hy | hy
        · exact hmo y hy
        · rw [List.mem_singleton.mp hy]; exact ⟨ho, hA⟩
      · rw [kp1_app]; exact t')
  rw [List.length_range] at hlen
  exact ⟨mo, S', y9, y10, y11, by omega, hmo, ht, e⟩
/-! # the rows as they are told -/
def tdD (l : List Rw) : List (Key × D) := l.map fun r => (Sum.inl r.n, rwD r)
theorem inl_inj : ∀ a b : Int, (Sum.inl a : Key) = Sum.inl b → a = b := fun a b h => by cases h; rfl
theorem td_put {l : List Rw} (r : Rw) (h : r.n ∉ l.map (·.n)) (hl : l.length ≤ 60) : setItem' (.dK (tdD l)) (.int r.n) (rwD r) = some (.dK (tdD (l ++ [r]))) := by
  have big : (61 : Nat) ≤ sizeLine := by decide
  show (if (tdD l).length < sizeLine then some (D.dK (dput (tdD l) (Sum.inl r.n) (rwD r))) else none) = _
  rw [if_pos (by unfold tdD; rw [List.length_map]; omega)]
  have e : tdD l = (l.map fun r => (r.n, r)).map fun e : Int × Rw => ((Sum.inl e.1 : Key), rwD e.2) := by unfold tdD; rw [List.map_map]; rfl
  rw [e, Tb.dput_map inl_inj rwD]
  have hn : look (l.map fun r => (r.n, r)) r.n = none := Tb.look_none.mpr (by rw [List.map_map]; exact h)
  have e2 : dput (l.map fun r => (r.n, r)) r.n r = (l.map fun r => (r.n, r)) ++ [(r.n, r)] := by
    unfold dput
    rw [hn]; rfl
  rw [e2]
  unfold tdD
  simp
theorem td_idx {l : List Rw} (nd : (l.map (·.n)).Nodup) {r : Rw} (h : r ∈ l) : idxD (.dK (tdD l)) (.int r.n) = some (rwD r) := by
  show (some (look (tdD l) (Sum.inl r.n))).join = _
  have e : tdD l = (l.map fun r => (r.n, r)).map fun e : Int × Rw => ((Sum.inl e.1 : Key), rwD e.2) := by unfold tdD; rw [List.map_map]; rfl
  rw [e, Tb.look_map inl_inj rwD]
  have : look (l.map fun r => (r.n, r)) r.n = some r := Tb.look_of (by rw [List.map_map]; exact nd) (List.mem_map.mpr ⟨r, h, rfl⟩)
  rw [this]; rfl
def hd (r : Rw) : Int × (Int × Int) := (r.n, r.st)
theorem hd_n {l m : List Rw} (h : l.map hd = m.map hd) : l.map (·.n) = m.map (·.n) := by
  have : ∀ l : List Rw, l.map (·.n) = (l.map hd).map (·.1) := fun l => by rw [List.map_map]; rfl
  rw [this, this, h]
theorem hd_asc {l m : List Rw} (h : l.map hd = m.map hd) (asc : m.Pairwise LtR) : l.Pairwise LtR := by
  have key : ∀ l : List Rw, l.Pairwise LtR ↔ (l.map hd).Pairwise fun a b => a.2.1 < b.2.1 ∨ a.2.1 = b.2.1 ∧ (a.2.2 < b.2.2 ∨ a.2.2 = b.2.2 ∧ a.1 < b.1) := fun l => by
    rw [List.pairwise_map]
    constructor
    · exact List.Pairwise.imp fun {a b} h => ltR_iff.mp h
    · exact List.Pairwise.imp fun {a b} h => ltR_iff.mpr h
  rw [key, h, ← key]
  exact asc
/-- in the rows' own order -/
def back (t : List Rw) (rows : List Rw) : List Rw := rows.filterMap fun r => look (t.map fun r => (r.n, r)) r.n
theorem ltold_ok (h : Rd St st c) {rows : List Rw} (hr : ∀ r ∈ rows, RowOk r) (nd : (rows.map (·.n)).Nodup) (hl : rows.length ≤ 6) :
    ∃ (t rows' : List Rw) (S' : Store), t.Pairwise LtR ∧ (∀ x, x ∈ rows' ↔ x ∈ t) ∧ (rows'.map (·.n)).Nodup ∧ rows'.length ≤ 6 ∧ (t.map (·.n)).Nodup ∧ (∀ r ∈ t, RowOk r) ∧
      runF T (N + 2) ("_law_told", none) [.ref st, .lst (rows.map rwD)] St = some (.tup [.lst (rows'.map rwD), woD (wrA [] t), .lst ((leftOf (kpA [] t)).map ssD)], S') := by
  have sz := szs
  have hst : st < St.length := by
    obtain ⟨pos, cs, R⟩ := h
    exact (List.getElem?_eq_some_iff.mp R.at_).1
  have hc : c < St.length := by
    obtain ⟨pos, cs, R⟩ := h
    exact (List.getElem?_eq_some_iff.mp R.row).1
  have run : runF T (N + 2) ("_law_told", none) [.ref st, .lst (rows.map rwD)] St = (evSs (Z.run T (N + 1)) law_toldb [.fz (.ref st), .fz (.lst (rows.map rwD)), .un, .un, .un, .un, .un, .un, .un, .un, .un, .un, .un, .un] St).bind outR := by rw [run_def at_ltold _ St rfl]; rfl
  have t0 : Tst (St ++ [cellK []]) st c St.length [] := by
    obtain ⟨pos, cs, R⟩ := h
    exact ⟨⟨pos, cs, Rnd_of R (List.getElem?_append_left hst) (List.getElem?_append_left hc)⟩, at_last, by omega, by omega⟩
  have q0 : evS (Z.run T (N + 1)) law_told0 [.fz (.ref st), .fz (.lst (rows.map rwD)), .un, .un, .un, .un, .un, .un, .un, .un, .un, .un, .un, .un] St = some (.nxt (TEn st St.length (.fz (.lst (rows.map rwD))) .un .un .un .un .un .un .un .un .un .un .un) (St ++ [cellK []])) := by
    simp -implicitDefEqProofs [law_told0, bindT, newRef]
    rfl
  generalize hm : St.length = m at *
  generalize St ++ [cellK []] = S0 at *
  have q1 : evS (Z.run T (N + 1)) law_told1 (TEn st m (.fz (.lst (rows.map rwD))) .un .un .un .un .un .un .un .un .un .un .un) S0 = some (.nxt (TEn st m (.fz (.lst (rows.map rwD))) (.own (.dK [])) .un .un .un .un .un .un .un .un .un .un) S0) := by
    simp -implicitDefEqProofs [law_told1, isFresh]
    try rfl
  have q2 : evS (Z.run T (N + 1)) law_told2 (TEn st m (.fz (.lst (rows.map rwD))) (.own (.dK [])) .un .un .un .un .un .un .un .un .un .un) S0 = some (.nxt (TEn st m (.fz (.lst (rows.map rwD))) (.own (.dK [])) (.fz .non) .un .un .un .un .un .un .un .un .un) S0) := by
    simp -implicitDefEqProofs [law_told2, Cst.d, bindT]
  have so := law_sorted_ok (N := N) (St := S0) hr nd hl
  have hi : evI (Z.run T (N + 1)) (.seq (.call "_law_sorted" (.cons (.var 1) .nil))) (TEn st m (.fz (.lst (rows.map rwD))) (.own (.dK [])) (.fz .non) .un .un .un .un .un .un .un .un .un) S0 = some (.val (.lst ((srtR rows).map rwD)), (srtR rows).map rwD, S0) := by
    simp -implicitDefEqProofs [hOf, so]
  have hs : ∀ r ∈ srtR rows, RowOk r := fun r h => hr r (srtR_mem.mp h)
  have nds : ((srtR rows).map (·.n)).Nodup := ((List.mergeSort_perm rows leR).map _).nodup_iff.mpr nd
  have sl : (srtR rows).length ≤ 6 := by unfold srtR; rw [List.length_mergeSort]; exact hl
  obtain ⟨ρ', S', e, t, y5, y6, y7, y8, y9, y10, y11, rfl, hhd, hok, ht, hno⟩ := for_map (G := Z.run T (N + 1)) (t := .nms [5, 6, 7]) (b := law_told3b) rwD (srtR rows)
    (fun p ρ S => ∃ (t : List Rw) (y5 y6 y7 y8 y9 y10 y11 : Slot), ρ = TEn st m (.fz (.lst (rows.map rwD))) (.own (.dK (tdD t))) (.fz (woD (wrA [] t))) y5 y6 y7 y8 y9 y10 y11 .un .un ∧ t.map hd = p.map hd ∧ (∀ r ∈ t, RowOk r) ∧ Tst S st c m (kpA [] t) ∧ True) (fun n z => by cases z) hi ⟨[], _, _, _, _, _, _, _, rfl, rfl, by simp, t0, trivial⟩ (fun p r q hq ρ S hp => by
      obtain ⟨t, y5, y6, y7, y8, y9, y10, y11, rfl, hhd, hok, ht, -⟩ := hp
      have hr2 := hs r (by rw [hq]; simp)
      have okt : KpOk (kpA [] t) := KpOk.nil.kpA fun x hx => (hok x hx).rw
      have bt : bindT (.nms [5, 6, 7]) (rwD r) (TEn st m (.fz (.lst (rows.map rwD))) (.own (.dK (tdD t))) (.fz (woD (wrA [] t))) y5 y6 y7 y8 y9 y10 y11 .un .un) = some (TEn st m (.fz (.lst (rows.map rwD))) (.own (.dK (tdD t))) (.fz (woD (wrA [] t))) (.fz (.int r.n)) (.fz (Z.pairD r.st)) (.fz (.lst (r.did.map odD))) y8 y9 y10 y11 .un .un) := rfl
      have b0 : evS (Z.run T (N + 1)) law_told3b0 (TEn st m (.fz (.lst (rows.map rwD))) (.own (.dK (tdD t))) (.fz (woD (wrA [] t))) (.fz (.int r.n)) (.fz (Z.pairD r.st)) (.fz (.lst (r.did.map odD))) y8 y9 y10 y11 .un .un) S = some (.nxt (TEn st m (.fz (.lst (rows.map rwD))) (.own (.dK (tdD t))) (.fz (woD (wrA [] t))) (.fz (.int r.n)) (.fz (Z.pairD r.st)) (.fz (.lst (r.did.map odD))) (.own (.lst [])) y9 y10 y11 .un .un) S) := by
        simp -implicitDefEqProofs [law_told3b0, isFresh]
        try rfl
      obtain ⟨mo, S2, z9, z10, z11, ml, mok, t2, b1⟩ := inner_ok (N := N) ht okt ⟨hr2.len, hr2.ops⟩ (wrA [] t) r.n (.fz (.lst (rows.map rwD))) (.own (.dK (tdD t))) (.fz (Z.pairD r.st)) y9 y10 y11 .un .un
      have hn : r.n ∉ t.map (·.n) := by
        rw [hd_n hhd]
        have nd2 := nds
        rw [hq, List.map_append, List.map_cons] at nd2
        have := (List.nodup_append.mp nd2).2.2
        intro z
        exact this _ z _ List.mem_cons_self rfl
      have tl : t.length ≤ 6 := by
        have h1 := congrArg List.length hhd
        have h2 := congrArg List.length hq
        simp at h1 h2
        omega
      have ep := td_put (l := t) ⟨r.n, r.st, mo⟩ hn (by omega)
      have ep : setItem' (.dK (tdD t)) (.int r.n) (.tup [.int r.n, Z.pairD r.st, .lst (mo.map odD)]) = some (.dK (tdD (t ++ [⟨r.n, r.st, mo⟩]))) := ep
      have wa : wrA [] (t ++ [⟨r.n, r.st, mo⟩]) = elW (wrA [] t) (wr1 (kpA [] t) r.n 0 mo) := by
        rw [wrA_app]
        cases wrA [] t with
        | some w => rfl
        | none =>
          simp only [wrA, elW]
          cases wr1 (kpA [] t) r.n 0 mo <;> rfl
      refine ⟨_, TEn st m (.fz (.lst (rows.map rwD))) (.own (.dK (tdD (t ++ [⟨r.n, r.st, mo⟩])))) (.fz (woD (wrA [] (t ++ [⟨r.n, r.st, mo⟩])))) (.fz (.int r.n)) (.fz (Z.pairD r.st)) (.fz (.lst (r.did.map odD))) (.fz (.lst (mo.map odD))) z9 z10 z11 .un .un, S2, bt, ?_, _, _, _, _, _, _, _, _, rfl, ?_, ?_, ?_, trivial⟩
      · rw [law_told3b, seq1 b0, seq1 b1, wa]
        simp -implicitDefEqProofs [law_told3b2, hOf, sz, ep, putC]
      · rw [List.map_append, List.map_append, hhd]; rfl
      · intro x hx
        rcases List.mem_append.mp hx with hx | hx
        · exact hok x hx
        · rw [List.mem_singleton.mp hx]; exact ⟨hr2.st, hr2.n, ml, mok⟩
      · rw [kpA_app]; exact t2)
  have e : evS (Z.run T (N + 1)) law_told3 (TEn st m (.fz (.lst (rows.map rwD))) (.own (.dK [])) (.fz .non) .un .un .un .un .un .un .un .un .un) S0 = _ := e
  have hn := hd_n hhd
  have ndt : (t.map (·.n)).Nodup := by rw [hn]; exact nds
  have asc := hd_asc hhd (srtR_asc nd)
  have tl : t.length ≤ 6 := by
    have h1 := congrArg List.length hhd
    simp at h1
    omega
  have okt : KpOk (kpA [] t) := KpOk.nil.kpA fun x hx => (hok x hx).rw
  -- each row is told
  have find : ∀ r ∈ rows, ∃ x ∈ t, x.n = r.n := fun r hr => by
    have : r.n ∈ t.map (·.n) := by rw [hn]; exact List.mem_map.mpr ⟨r, srtR_mem.mpr hr, rfl⟩
    obtain ⟨x, hx, e⟩ := List.mem_map.mp this
    exact ⟨x, hx, e⟩
  obtain ⟨tf, htf⟩ : ∃ tf : Rw → Rw, ∀ r ∈ rows, tf r ∈ t ∧ (tf r).n = r.n := ⟨fun r => if h : r ∈ rows then (find r h).choose else r, fun r hr => by
    simp only [dif_pos hr]
    exact (find r hr).choose_spec⟩
  have c1 := comp_maph (G := Z.run T (N + 1)) (t := .nm 12) (it := .seq (.var 1)) (e := .idx (.var 3) (.idx (.var 12) (.cst (.int 0)))) (ρ := TEn st m (.fz (.lst (rows.map rwD))) (.own (.dK (tdD t))) (.fz (woD (wrA [] t))) y5 y6 y7 y8 y9 y10 y11 .un .un) (S := S') (S1 := S') (w := .val (.lst (rows.map rwD))) rwD rows (fun r => rwD (tf r)) rfl rfl (by simp -implicitDefEqProofs [hOf]) (fun r hr => by
    refine ⟨TEn st m (.fz (.lst (rows.map rwD))) (.own (.dK (tdD t))) (.fz (woD (wrA [] t))) y5 y6 y7 y8 y9 y10 y11 (.fz (rwD r)) .un, rfl, ?_⟩
    obtain ⟨h1, h2⟩ := htf r hr
    have ix := td_idx ndt h1
    rw [h2] at ix
    simp -implicitDefEqProofs [hOf, Cst.d, rwD, atI0, ix]) (by omega)
  have ks := kp_keys (kpA [] t) okt.len
  have hk := ht.k
  have c2 := comp_maph (G := Z.run T (N + 1)) (t := .nm 13) (it := .seq (.blt .sorted (.cons (.var 2) .nil))) (e := .tup (.cons (.var 13) (.cons (.idx (.var 2) (.var 13)) .nil))) (ρ := TEn st m (.fz (.lst (rows.map rwD))) (.own (.dK (tdD t))) (.fz (woD (wrA [] t))) y5 y6 y7 y8 y9 y10 y11 .un .un) (S := S') (S1 := S') (w := .val (.lst ((keysS (kpA [] t)).map .str))) D.str (keysS (kpA [] t)) (fun k => ssD (rowK (kpA [] t) k)) rfl rfl (by simp -implicitDefEqProofs [hOf, hk, ks]) (fun k hkk => by
    refine ⟨TEn st m (.fz (.lst (rows.map rwD))) (.own (.dK (tdD t))) (.fz (woD (wrA [] t))) y5 y6 y7 y8 y9 y10 y11 .un (.fz (.str k)), rfl, ?_⟩
    have g3 := kp_idx okt hkk
    simp -implicitDefEqProofs [hOf, hk, g3, sz]
    rfl) (by rw [keysS_len]; have := okt.len; omega)
  have mem' : ∀ x, x ∈ rows.map tf ↔ x ∈ t := fun x => by
    constructor
    · intro h
      obtain ⟨r, hr, rfl⟩ := List.mem_map.mp h
      exact (htf r hr).1
    · intro hx
      have : x.n ∈ (srtR rows).map (·.n) := by rw [← hn]; exact List.mem_map.mpr ⟨x, hx, rfl⟩
      obtain ⟨r, hr, e⟩ := List.mem_map.mp this
      have hr := srtR_mem.mp hr
      refine List.mem_map.mpr ⟨r, hr, ?_⟩
      obtain ⟨h1, h2⟩ := htf r hr
      exact nodup_uniq ndt h1 hx (by rw [h2, e])
  have nn : (rows.map tf).map (·.n) = rows.map (·.n) := by
    rw [List.map_map]
    exact List.map_congr_left fun r hr => (htf r hr).2
  refine ⟨t, rows.map tf, S', asc, mem', by rw [nn]; exact nd, by rw [List.length_map]; exact hl, ndt, hok, ?_⟩
  rw [run, law_toldb, seq1 q0, seq1 q1, seq1 q2, seq1 e]
  have m1 : rows.map (fun r => rwD (tf r)) = (rows.map tf).map rwD := by rw [List.map_map]; rfl
  have m2 : (keysS (kpA [] t)).map (fun k => ssD (rowK (kpA [] t) k)) = (leftOf (kpA [] t)).map ssD := by unfold leftOf; rw [List.map_map]; rfl
  rw [m1] at c1
  rw [m2] at c2
  simp -implicitDefEqProofs [law_told4, hOf, c1, c2, sz]
  rfl
end
end K51

set_option Elab.async false
set_option linter.all false
set_option maxRecDepth 100000
set_option maxHeartbeats 2000000
namespace K51
open PySem PySem.Spec PyProof.Rows L2 Z Wt
open Tb (Rd Wnt)
theorem plains_of {α : Type} {f : α → D} : ∀ {xs : List α}, (∀ x ∈ xs, (f x).plain = true) → plains (xs.map f) = true
  | [], _ => rfl
  | x :: xs, h => by rw [List.map_cons, plains, h x List.mem_cons_self, plains_of fun y hy => h y (List.mem_cons_of_mem _ hy)]; rfl
structure Sm5 (d : D) (n k : Nat) : Prop where
  lf : d.lf = true
  pl : d.plain = true
  nd : d.nd ≤ n
  dp : d.dp ≤ k
theorem tags : txS "get" = true ∧ txS "scan" = true ∧ txS "put" = true ∧ txS "delete" = true ∧ PyData.strOk "get" = true ∧ PyData.strOk "scan" = true ∧ PyData.strOk "put" = true ∧ PyData.strOk "delete" = true := by decide +kernel
theorem sm_op {o : Op} (h : OpOk o) : Sm5 (opD o) 5 2 := by
  obtain ⟨t1, t2, t3, t4, p1, p2, p3, p4⟩ := tags
  cases o with
  | get k =>
    obtain ⟨a, b⟩ := keys_ok _ h
    exact ⟨by simp [opD, D.lf, lfs, t1, b], by simp [opD, D.plain, plains, p1, a], by simp [opD, D.nd, nds], by simp [opD, D.dp, dps]⟩
  | scan x y =>
    obtain ⟨⟨a, b⟩, c, d⟩ := sps_ok _ h
    exact ⟨by simp [opD, D.lf, lfs, t2, b, d], by simp [opD, D.plain, plains, p2, a, c], by simp [opD, D.nd, nds], by simp [opD, D.dp, dps]⟩
  | put k v =>
    obtain ⟨a, b⟩ := keys_ok _ h.1
    obtain ⟨c, d⟩ := vals_ok _ h.2
    exact ⟨by simp [opD, D.lf, lfs, t3, b, d], by simp [opD, D.plain, plains, p3, a, c], by simp [opD, D.nd, nds], by simp [opD, D.dp, dps]⟩
  | del k =>
    obtain ⟨a, b⟩ := keys_ok _ h
    exact ⟨by simp [opD, D.lf, lfs, t4, b], by simp [opD, D.plain, plains, p4, a], by simp [opD, D.nd, nds], by simp [opD, D.dp, dps]⟩
theorem sm_ss {e : Str × Str} (h : e.1 ∈ keys4 ∧ e.2 ∈ Wt.vals4) : Sm5 (ssD e) 3 1 := by
  obtain ⟨a, b⟩ := keys_ok _ h.1
  obtain ⟨c, d⟩ := vals_ok _ h.2
  exact ⟨by simp [ssD, D.lf, lfs, b, d], by simp [ssD, D.plain, plains, a, c], by simp [ssD, D.nd, nds], by simp [ssD, D.dp, dps]⟩
theorem sm_map {α : Type} {f : α → D} {n k : Nat} {xs : List α} (h : ∀ x ∈ xs, Sm5 (f x) n k) : Sm5 (.lst (xs.map f)) (1 + xs.length * n) (1 + k) := by
  refine ⟨?_, plains_of fun x hx => (h x hx).pl, ?_, ?_⟩
  · rw [D.lf]; exact lfs_map f xs fun x hx => (h x hx).lf
  · have := nds_map f (k := n) xs fun x hx => (h x hx).nd
    rw [D.nd]; omega
  · have := dps_map f (k := k) xs fun x hx => (h x hx).dp
    rw [D.dp]; omega
theorem Sm5.mono {d : D} {n k n' k' : Nat} (h : Sm5 d n k) (a : n ≤ n') (b : k ≤ k') : Sm5 d n' k' := ⟨h.lf, h.pl, Nat.le_trans h.nd a, Nat.le_trans h.dp b⟩
theorem sm_an {a : An} (h : AnOk a) : Sm5 (anD a) 13 2 := by
  cases a with
  | no => exact ⟨rfl, rfl, by simp [anD, D.nd], by simp [anD, D.dp]⟩
  | tx x =>
    obtain ⟨c, d⟩ := vals_ok _ h
    exact ⟨by simp [anD, D.lf, d], by simp [anD, D.plain, c], by simp [anD, D.nd], by simp [anD, D.dp]⟩
  | rw l => exact (sm_map (f := ssD) fun x hx => sm_ss (h.2 x hx)).mono (by have := h.1; omega) (by omega)
theorem sm_od {x : Op × An} (h : OpOk x.1 ∧ AnOk x.2) : Sm5 (odD x) 19 3 := by
  have a := sm_op h.1
  have b := sm_an h.2
  have := a.nd
  have := b.nd
  have := a.dp
  have := b.dp
  exact ⟨by simp [odD, D.lf, lfs, a.lf, b.lf], by simp [odD, D.plain, plains, a.pl, b.pl], by simp [odD, D.nd, nds]; omega, by simp [odD, D.dp, dps]; omega⟩
theorem txI_of {i : Int} (h : 0 ≤ i ∧ i ≤ 1000000) : txI i = true := by
  unfold txI
  simp only [Bool.and_eq_true, decide_eq_true_eq]; omega
theorem sm_rw {r : Rw} (h : RowOk r) : Sm5 (rwD r) 101 5 := by
  have m := sm_map (f := odD) fun x hx => sm_od (h.ops x hx)
  have q1 := m.nd
  have q2 := m.dp
  rw [D.nd] at q1
  rw [D.dp] at q2
  have := h.len
  obtain ⟨s1, s2, s3, s4⟩ := h.st
  obtain ⟨n1, n2⟩ := h.n
  have t1 := txI_of (i := r.n) (by omega)
  have t2 := txI_of (i := r.st.1) (by omega)
  have t3 := txI_of (i := r.st.2) (by omega)
  exact ⟨by simp [rwD, Z.pairD, D.lf, lfs, t1, t2, t3]; exact m.lf, by simp [rwD, Z.pairD, D.plain, plains]; exact m.pl, by simp [rwD, Z.pairD, D.nd, nds]; omega, by simp [rwD, Z.pairD, D.dp, dps]; omega⟩
theorem Sm5.fit {d : D} {n k : Nat} (h : Sm5 d n k) (hk : k ≤ 60) : d.fit = true := by
  have e : d.dep = d.dp := by
    rw [← dep_of d, pyr_py d h.pl]; rfl
  unfold D.fit
  rw [h.pl, Bool.true_and, decide_eq_true_eq, e]
  have := h.dp
  omega
theorem sm_left {m : Kp} (ok : KpOk m) : Sm5 (.lst ((leftOf m).map ssD)) 13 2 := by
  refine (sm_map (f := ssD) (n := 3) (k := 1) fun x hx => ?_).mono ?_ (by omega)
  · obtain ⟨k, hk, rfl⟩ := List.mem_map.mp hx
    obtain ⟨h1, h2, _⟩ := rowK_ok ok hk
    exact sm_ss ⟨h1, h2⟩
  · unfold leftOf
    rw [List.length_map, keysS_len]
    have := ok.len
    omega
theorem wo_fit (w : Option (Int × Int)) : (woD w).fit = true := by
  cases w with
  | none => rfl
  | some w => exact fit_pair w
theorem cut_a {α : Type} (f : α → D) (xs : List α) : cutL (xs.map f) (some 2) none = (xs.drop (min 2 xs.length)).map f := by
  unfold cutL
  rw [HT.sIx_none, show (some 2 : Option Int) = some ((2 : Nat) : Int) from rfl, HT.sIx_nat, List.length_map, ← List.map_drop, ← List.map_take]
  congr 1
  rw [List.take_of_length_le (by rw [List.length_drop]; omega)]
theorem cut_b {α : Type} (f : α → D) (xs : List α) : cutL (xs.map f) none (some 2) = (xs.take (min 2 xs.length)).map f := by
  unfold cutL
  rw [HT.sIx_none, show (some 2 : Option Int) = some ((2 : Nat) : Int) from rfl, HT.sIx_nat, List.length_map, List.drop_zero, ← List.map_take]
  rfl
theorem body_ok {St : Store} {t rows o : List Rw} (asc : t.Pairwise LtR) (hmem : ∀ x, x ∈ rows ↔ x ∈ t) (nd : (rows.map (·.n)).Nodup) (hl : rows.length ≤ 6) (ok : ∀ r ∈ t, RowOk r)
    (ho : ∀ x, x ∈ o ↔ x ∈ t) (ndo : (o.map (·.n)).Nodup) (hlo : o.length ≤ 1000) (a b x : Slot) : ∃ S', evSs (Z.run T 19) law3b [a, b, x, .fz (.lst (o.map rwD)), .fz (.lst (rows.map rwD)), .fz (woD (wrA [] t)), .fz (.lst ((leftOf (kpA [] t)).map ssD))] St = some (.nxt [a, b, x, .fz (.lst (o.map rwD)), .fz (.lst (rows.map rwD)), .fz (woD (wrA [] t)), .fz (.lst ((leftOf (kpA [] t)).map ssD))] S') := by
  have s1 : srtR o = t := srtR_of ndo asc ho
  have s2 : srtR rows = t := srtR_of nd asc hmem
  have okr : ∀ r ∈ rows, RowOk r := fun r hr => ok r ((hmem r).mp hr)
  have oko : ∀ r ∈ o, rwOk r := fun r hr => (ok r ((ho r).mp hr)).rw
  have e1 : runF T 19 ("in_order", none) [.lst (o.map rwD)] St = _ := in_order_ok (T := T) (S := St) (n := 18) at_in hlo
  have e2 : runF T 19 ("_law_sorted", none) [.lst (rows.map rwD)] St = _ := law_sorted_ok (N := 18) (St := St) okr nd hl
  obtain ⟨cc, e3⟩ := first_wrong_ok (T := T) (S0 := St) (n := 17) at_told at_in at_fw oko hlo
  have e3 : runF T 19 ("first_wrong", none) [.lst (o.map rwD)] St = _ := e3
  have e4 : runF T 19 ("left_by", none) [.lst (o.map rwD)] (St ++ [cc]) = _ := left_by_ok (T := T) (S0 := St ++ [cc]) (n := 17) at_in at_lb oko hlo
  rw [s1] at e1 e3 e4
  rw [s2] at e2
  have okt : KpOk (kpA [] t) := KpOk.nil.kpA fun x hx => (ok x hx).rw
  have n1 := Z.ne_self ((sm_map (f := rwD) fun r hr => sm_rw (ok r hr)).fit (by omega))
  have n2 := Z.ne_self (wo_fit (wrA [] t))
  have n3 := Z.ne_self ((sm_left okt).fit (by omega))
  refine ⟨St ++ [cc], ?_⟩
  simp -implicitDefEqProofs [law3b, law3b0, hOf, Cst.d, e1, e2, e3, e4, n1, n2, n3]
theorem ev (ns : List Int) (hl : ns.length ≤ 63) : ∃ S', runF conf.prog 20 ("law", none) [.ref 0] [.lck (.lst (ns.map D.int))] = some (.bl true, S') := by
  show ∃ S', runF T (19 + 1) ("law", none) [.ref 0] [.lck (.lst (ns.map D.int))] = some (.bl true, S')
  rw [run_def at_law [.ref 0] _ rfl]
  show ∃ S', (evSs (Z.run T 19) lawb [.fz (.ref 0), .un, .un, .un, .un, .un, .un] [.lck (.lst (ns.map D.int))]).bind outR = _
  obtain ⟨st, c, S1, cs, e0, R, _, _, _⟩ := Z.state_ok at_state (n := 18) (S := [.lck (.lst (ns.map D.int))]) (ns := ns) rfl hl
  have e0 : runF T 19 ("_law_state", none) [.ref 0] [.lck (.lst (ns.map D.int))] = some (.ref st, S1) := e0
  have q0 : evS (Z.run T 19) law0 [.fz (.ref 0), .un, .un, .un, .un, .un, .un] [.lck (.lst (ns.map D.int))] = some (.nxt [.fz (.ref 0), .fz (.ref st), .un, .un, .un, .un, .un] S1) := by
    unfold law0
    simp -implicitDefEqProofs [hOf, e0, bindT]
  have rd1 : Rd S1 st c := ⟨_, _, R⟩
  clear R e0
  obtain ⟨rows, S2, rok, rnd, rl, e1, w1⟩ := rows_ok (N := 16) rd1
  have e1 : runF T 19 ("_law_rows", none) [.ref st] S1 = _ := e1
  obtain ⟨t, rows', S3, asc, mem, nd', l', ndt, tok, e2⟩ := ltold_ok (N := 17) w1.1 rok rnd rl
  have e2 : runF T 19 ("_law_told", none) [.ref st, .lst (rows.map rwD)] S2 = _ := e2
  have q1 : evS (Z.run T 19) law1 [.fz (.ref 0), .fz (.ref st), .un, .un, .un, .un, .un] S1 = some (.nxt [.fz (.ref 0), .fz (.ref st), .un, .un, .fz (.lst (rows'.map rwD)), .fz (woD (wrA [] t)), .fz (.lst ((leftOf (kpA [] t)).map ssD))] S3) := by
    unfold law1
    simp -implicitDefEqProofs [hOf, e1, e2, bindT]
  have ok' : ∀ r ∈ rows', RowOk r := fun r hr => tok r ((mem r).mp hr)
  have sm := sm_map (f := rwD) fun r hr => sm_rw (ok' r hr)
  obtain ⟨x, ex, ox⟩ := repr_small (d := .lst (rows'.map rwD)) rfl sm.lf (by have := sm.dp; omega) (by have := sm.nd; omega)
  have q2 : evS (Z.run T 19) law2 [.fz (.ref 0), .fz (.ref st), .un, .un, .fz (.lst (rows'.map rwD)), .fz (woD (wrA [] t)), .fz (.lst ((leftOf (kpA [] t)).map ssD))] S3 = some (.nxt [.fz (.ref 0), .fz (.ref st), .fz (.str x), .un, .fz (.lst (rows'.map rwD)), .fz (woD (wrA [] t)), .fz (.lst ((leftOf (kpA [] t)).map ssD))] S3) := by
    unfold law2
    simp -implicitDefEqProofs [hOf, ex, bindT]
  have sz := szs
  -- the three lists
  have perm3 : (rows'.drop (min 2 rows'.length) ++ rows'.take (min 2 rows'.length)).Perm rows' := List.perm_append_comm.trans (by rw [List.take_append_drop])
  have hadd : binD .Add (.lst ((rows'.drop (min 2 rows'.length)).map rwD)) (.lst ((rows'.take (min 2 rows'.length)).map rwD)) = some (.lst ((rows'.drop (min 2 rows'.length) ++ rows'.take (min 2 rows'.length)).map rwD)) := by
    show (if ((rows'.drop (min 2 rows'.length)).map rwD).length + ((rows'.take (min 2 rows'.length)).map rwD).length ≤ sizeLine then some (D.lst ((rows'.drop (min 2 rows'.length)).map rwD ++ (rows'.take (min 2 rows'.length)).map rwD)) else none) = _
    rw [if_pos (by rw [List.length_map, List.length_map, List.length_drop, List.length_take]; omega), List.map_append]
  have sa : slD (.lst (rows'.map rwD)) (some 2) none = some (.lst ((rows'.drop (min 2 rows'.length)).map rwD)) := by
    show some (D.lst (cutL (rows'.map rwD) (some 2) none)) = _
    rw [cut_a]
  have sb : slD (.lst (rows'.map rwD)) none (some 2) = some (.lst ((rows'.take (min 2 rows'.length)).map rwD)) := by
    show some (D.lst (cutL (rows'.map rwD) none (some 2))) = _
    rw [cut_b]
  generalize rows'.drop (min 2 rows'.length) = A at perm3 hadd sa
  generalize rows'.take (min 2 rows'.length) = B at perm3 hadd sb
  have hi : evI (Z.run T 19) (.seq (.list (.cons (.var 4) (.cons (.rev (.var 4)) (.cons (.bin .Add (.sl (.var 4) (.cons (.cst (.int 2)) .nil) .nil) (.sl (.var 4) .nil (.cons (.cst (.int 2)) .nil))) .nil))))) [.fz (.ref 0), .fz (.ref st), .fz (.str x), .un, .fz (.lst (rows'.map rwD)), .fz (woD (wrA [] t)), .fz (.lst ((leftOf (kpA [] t)).map ssD))] S3 = some (.val (.lst ([rows', rows'.reverse, A ++ B].map fun o => D.lst (o.map rwD))), [rows', rows'.reverse, A ++ B].map fun o => D.lst (o.map rwD), S3) := by
    simp -implicitDefEqProofs [hOf, Cst.d, ixO, sa, sb, hadd, sz, -List.map_append]
  obtain ⟨ρ', S4, e4, x3, rfl⟩ := for_map (G := Z.run T 19) (t := .nm 3) (b := law3b) (fun o : List Rw => D.lst (o.map rwD)) [rows', rows'.reverse, A ++ B]
    (fun p ρ S' => ∃ x3, ρ = [.fz (.ref 0), .fz (.ref st), .fz (.str x), x3, .fz (.lst (rows'.map rwD)), .fz (woD (wrA [] t)), .fz (.lst ((leftOf (kpA [] t)).map ssD))]) (fun n z => by cases z) hi ⟨_, rfl⟩ (fun p o q hq ρ S hp => by
      obtain ⟨x3, rfl⟩ := hp
      have hm : o ∈ [rows', rows'.reverse, A ++ B] := by rw [hq]; simp
      have po : o.Perm rows' := by
        simp at hm
        rcases hm with rfl | rfl | rfl
        · exact .refl _
        · exact List.reverse_perm _
        · exact perm3
      have bt : bindT (.nm 3) (.lst (o.map rwD)) [.fz (.ref 0), .fz (.ref st), .fz (.str x), x3, .fz (.lst (rows'.map rwD)), .fz (woD (wrA [] t)), .fz (.lst ((leftOf (kpA [] t)).map ssD))] = some [.fz (.ref 0), .fz (.ref st), .fz (.str x), .fz (.lst (o.map rwD)), .fz (.lst (rows'.map rwD)), .fz (woD (wrA [] t)), .fz (.lst ((leftOf (kpA [] t)).map ssD))] := rfl
      obtain ⟨S', e⟩ := body_ok (St := S) asc mem nd' l' tok (fun y => by rw [po.mem_iff]; exact mem y) ((po.map _).nodup_iff.mpr nd') (by rw [po.length_eq]; omega) (.fz (.ref 0)) (.fz (.ref st)) (.fz (.str x))
      exact ⟨_, _, S', bt, e, _, rfl⟩)
  have e4 : evS (Z.run T 19) law3 [.fz (.ref 0), .fz (.ref st), .fz (.str x), .un, .fz (.lst (rows'.map rwD)), .fz (woD (wrA [] t)), .fz (.lst ((leftOf (kpA [] t)).map ssD))] S3 = _ := e4
  have xx : cmpD .Eq (.str x) (.str x) = some true := Z.eq_self ((Z.fit_str x).trans ox)
  refine ⟨S4, ?_⟩
  rw [lawb, seq1 q0, seq1 q1, seq1 q2, seq1 e4]
  unfold law4
  simp -implicitDefEqProofs [hOf, ex, xx]
  rfl
end K51

set_option Elab.async false
set_option linter.all false
set_option maxRecDepth 100000
set_option maxHeartbeats 4000000
namespace K51
open PySem PySem.Spec PyProof.Rows L2 Z
theorem ok : conf.ok = true := by decide +kernel
end K51

set_option Elab.async false
set_option linter.all false
set_option maxRecDepth 100000
set_option maxHeartbeats 0
namespace K51
open PySem PySem.Spec PyProof.Rows L2 Z
abbrev R : PySem.W.OpenRow := PySem.W.OpenLaw.row PySem.Challenge.rw_intentstore_k51_witnesses
abbrev hk : PySem.W.Hook := hookZ 5 conf
def ob (s : PySem.W.SharedT) : He.AlD := obsZ 5 conf (HandSHeadRun.getT s)
theorem ob_eq (s : PySem.W.SharedT) : ob s = hk.obs s.abs := obsZ_eq (HandSHeadRun.getT_eq s)
def loose : List PySem.Str := [("__name__" : PySem.Str), ("in_order" : PySem.Str), ("told_by" : PySem.Str), ("first_wrong" : PySem.Str), ("left_by" : PySem.Str), ("_law_state" : PySem.Str), ("_law_take" : PySem.Str), ("_law_bits" : PySem.Str), ("_law_op" : PySem.Str), ("_law_rows" : PySem.Str), ("_law_sorted" : PySem.Str), ("_law_should" : PySem.Str), ("_law_told" : PySem.Str)]
theorem run (w : World) : HandSHeadRun.RunEq R (PySem.W.view R.prog [14]) hk ob 4000 loose w := by
  intro os
  kernel_rfl
end K51

set_option Elab.async false
set_option linter.all false
set_option maxRecDepth 100000
set_option maxHeartbeats 0
open PySem PySem.W PySem.Calls PyProof.Rows
theorem PySem.Challenge.cw_intentstore_k51_witnesses_holds : PySem.Challenge.rw_intentstore_k51_witnesses.Holds := by
  w_on
  o_law
  refine HandSHeadRun.head_any (r := OpenLaw.row PySem.Challenge.rw_intentstore_k51_witnesses) (q := view (OpenLaw.row PySem.Challenge.rw_intentstore_k51_witnesses).prog [14]) (H := K51.hk) (ob := K51.ob) (M := 4000) (loose := K51.loose) (d := HandSHeadRun.topDef (OpenLaw.row PySem.Challenge.rw_intentstore_k51_witnesses).prog 14) (kwd := []) K51.ob_eq (by kernel_rfl) (fun s => by kernel_rfl) K51.run (by kernel_rfl) (by kernel_rfl) (by kernel_rfl) (by rfl) (by first | assumption | decide +kernel) (by decide +kernel) ⟨rfl, rfl, rfl, rfl, rfl, by decide +kernel⟩ ?hw ?hc
  case hw => w_witness2
  case hc => exact Z.law_z (l := PySem.Challenge.rw_intentstore_k51_witnesses) (n := 63) (N := 20) (h := 5) K51.conf K51.ok rfl (by decide) (by kernel_rfl) (by kernel_rfl) ⟨rfl, by decide, by decide⟩ K51.ev
