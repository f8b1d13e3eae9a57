import PyProof.Rows.All
import Wide.All
import OpenK.AllK
import Wide.FinOn
import HandS.ForMost
import HandS.Style
import HandS.Deep
import HandS.RaiseMore
import HandS.Defaults
import HandS.HeadEnd
import HandS.HeadHook2
import HandS.Head0
import HandS.Head1
import HandS.Head2
import KE.SortData
import KE.LtData
import HandS.TupAny
import HandS.Conv
import KE.DataMinMax
import KE.SortKeyHeap
import HandS.More
import HandS.DictComp
import HandS.Small
import KE.KDictItemsList
import HandS.ListItems
import KE.DataCmp
import KE.KDictSum
import KE.KDictCopyH
import KE.DataIsa
import PySem.Challenge.RW_intentstore_k50_logs
set_option Elab.async false
set_option linter.all false
set_option maxRecDepth 100000
set_option maxHeartbeats 4000000
namespace Z
open PySem PySem.Spec PyProof.Rows L2

/-! # plain data, the store, how they lie in the abstract heap -/
inductive D where
  | non | bl (b : Bool) | int (i : Int) | str (x : Str)
  | lst (xs : List D) | tup (xs : List D)
  | dK (kvs : List (Key × D)) | dT (kvs : List (List Key × D))
  | ref (n : Nat)
  /-- a tuple that may be one of the text's top: no dict's key -/
  | ctup (xs : List D)
instance : Inhabited D := ⟨.non⟩

mutual
inductive Rep (K : PySem.W.Frag) (F : Hp) (ι : List Addr) : V → D → Prop
  | non : Rep K F ι .non .non
  | bl (b : Bool) : Rep K F ι (.bl b) (.bl b)
  | int (i : Int) : Rep K F ι (.int i) (.int i)
  | str (x : Str) : Rep K F ι (.str x) (.str x)
  | lst {a vs ds} : F a = some (.lst vs) → Reps K F ι vs ds → Rep K F ι (.ref a) (.lst ds)
  | tup {a vs ds} : F a = some (.tup vs) → Reps K F ι vs ds → Rep K F ι (.ref a) (.tup ds)
  | dK {a kvs es} : F a = some (.dK kvs) → kvs.map (·.1) = es.map (·.1) → Reps K F ι (kvs.map (·.2)) (es.map (·.2)) → Rep K F ι (.ref a) (.dK es)
  | dT {a kvs es} : F a = some (.dT kvs) → kvs.map (·.1) = es.map (·.1) → Reps K F ι (kvs.map (·.2)) (es.map (·.2)) → Rep K F ι (.ref a) (.dT es)
  | ref {n a} : ι[n]? = some a → Rep K F ι (.ref a) (.ref n)
  | ctup {a vs ds} : Rd F a (.tup vs) → Reps K F ι vs ds → Rep K F ι (.ref a) (.ctup ds)
inductive Reps (K : PySem.W.Frag) (F : Hp) (ι : List Addr) : List V → List D → Prop
  | nil : Reps K F ι [] []
  | cons {v d vs ds} : Rep K F ι v d → Reps K F ι vs ds → Reps K F ι (v :: vs) (d :: ds)
end

def LeH (F F' : Hp) : Prop := ∀ a o, F a = some o → F' a = some o
theorem LeH.rd {H H' : Hp} (h : LeH H H') {a : Addr} {o : HO} (r : Rd H a o) : Rd H' a o := by
  rcases r with r | ⟨ob, r⟩
  · exact .inl (h _ _ r)
  · exact .inr ⟨ob, h _ _ r⟩
theorem LeH.refl (F : Hp) : LeH F F := fun _ _ h => h
theorem LeH.trans {F G H : Hp} (a : LeH F G) (b : LeH G H) : LeH F H := fun x o h => b x o (a x o h)
theorem LeH.upd {F : Hp} {a : Addr} {o : HO} (h : F a = none) : LeH F (upd F a o) := fun b u e => by
  rw [upd_ne (ne_of_none e h)]; exact e
def LeA (l m : List Addr) : Prop := ∀ (n : Nat) (a : Addr), l[n]? = some a → m[n]? = some a
theorem LeA.refl (l : List Addr) : LeA l l := fun _ _ h => h
theorem LeA.trans {l m n : List Addr} (a : LeA l m) (b : LeA m n) : LeA l n := fun x o h => b x o (a x o h)
theorem LeA.app (l m : List Addr) : LeA l (l ++ m) := fun n a h => by
  rw [List.getElem?_append_left (List.getElem?_eq_some_iff.mp h).1]; exact h

section
variable {K : PySem.W.Frag} {F F' : Hp} {ι ι' : List Addr}
mutual
theorem Rep.le (h : LeH F F') (g : LeA ι ι') : ∀ {v : V} {d : D}, Rep K F ι v d → Rep K F' ι' v d
  | _, _, .non => .non
  | _, _, .bl b => .bl b
  | _, _, .int i => .int i
  | _, _, .str x => .str x
  | _, _, .lst a r => .lst (h _ _ a) (Reps.le h g r)
  | _, _, .tup a r => .tup (h _ _ a) (Reps.le h g r)
  | _, _, .dK a e r => .dK (h _ _ a) e (Reps.le h g r)
  | _, _, .dT a e r => .dT (h _ _ a) e (Reps.le h g r)
  | _, _, .ref e => .ref (g _ _ e)
  | _, _, .ctup a r => .ctup (h.rd a) (Reps.le h g r)
theorem Reps.le (h : LeH F F') (g : LeA ι ι') : ∀ {vs : List V} {ds : List D}, Reps K F ι vs ds → Reps K F' ι' vs ds
  | _, _, .nil => .nil
  | _, _, .cons a r => .cons (Rep.le h g a) (Reps.le h g r)
end
theorem Reps.length : ∀ {vs : List V} {ds : List D}, Reps K F ι vs ds → vs.length = ds.length
  | _, _, .nil => rfl
  | _, _, .cons _ r => by rw [List.length_cons, List.length_cons, r.length]
theorem Reps.app : ∀ {vs ws : List V} {ds es : List D}, Reps K F ι vs ds → Reps K F ι ws es → Reps K F ι (vs ++ ws) (ds ++ es)
  | _, _, _, _, .nil, b => b
  | _, _, _, _, .cons a r, b => .cons a (r.app b)
theorem Reps.at : ∀ {vs : List V} {ds : List D}, Reps K F ι vs ds → ∀ {i : Nat} {d : D}, ds[i]? = some d → ∃ v, vs[i]? = some v ∧ Rep K F ι v d
  | _, _, .nil, _, _, h => by simp at h
  | _, _, .cons a r, 0, _, h => by simp at h; subst h; exact ⟨_, rfl, a⟩
  | _, _, .cons a r, i + 1, _, h => by
    obtain ⟨v, h1, h2⟩ := r.at (i := i) (by simpa using h)
    exact ⟨v, by simpa using h1, h2⟩
theorem Reps.of_at : ∀ {vs : List V} {ds : List D}, Reps K F ι vs ds → ∀ {i : Nat} {v : V}, vs[i]? = some v → ∃ d, ds[i]? = some d ∧ Rep K F ι v d
  | _, _, .nil, _, _, h => by simp at h
  | _, _, .cons a r, 0, _, h => by simp at h; subst h; exact ⟨_, rfl, a⟩
  | _, _, .cons a r, i + 1, _, h => by
    obtain ⟨v, h1, h2⟩ := r.of_at (i := i) (by simpa using h)
    exact ⟨v, by simpa using h1, h2⟩
theorem Reps.take : ∀ {vs : List V} {ds : List D}, Reps K F ι vs ds → ∀ n : Nat, Reps K F ι (vs.take n) (ds.take n)
  | _, _, _, 0 => by simp; exact .nil
  | _, _, .nil, _ + 1 => by simp; exact .nil
  | _, _, .cons a r, n + 1 => .cons a (r.take n)
theorem Reps.drop : ∀ {vs : List V} {ds : List D}, Reps K F ι vs ds → ∀ n : Nat, Reps K F ι (vs.drop n) (ds.drop n)
  | _, _, r, 0 => r
  | _, _, .nil, _ + 1 => by simp; exact .nil
  | _, _, .cons a r, n + 1 => r.drop n
theorem Reps.set {v : V} {d : D} (q : Rep K F ι v d) : ∀ {vs : List V} {ds : List D}, Reps K F ι vs ds → ∀ n : Nat, Reps K F ι (vs.set n v) (ds.set n d)
  | _, _, .nil, _ => .nil
  | _, _, .cons a r, 0 => .cons q r
  | _, _, .cons a r, n + 1 => .cons a (r.set q n)
theorem Reps.rev {vs : List V} {ds : List D} (r : Reps K F ι vs ds) : Reps K F ι vs.reverse ds.reverse := by
  induction r using Reps.rec (motive_1 := fun _ _ _ => True) with
  | nil => exact .nil
  | cons a r _ ih => simp only [List.reverse_cons]; exact ih.app (.cons a .nil)
  | _ => trivial
theorem Reps.erase : ∀ {vs : List V} {ds : List D}, Reps K F ι vs ds → ∀ n : Nat, Reps K F ι (vs.eraseIdx n) (ds.eraseIdx n)
  | _, _, .nil, _ => by simp; exact .nil
  | _, _, .cons a r, 0 => r
  | _, _, .cons a r, n + 1 => .cons a (r.erase n)
theorem Reps.one {v : V} {d : D} (q : Rep K F ι v d) : Reps K F ι [v] [d] := .cons q .nil
end

/-! ## the store -/
/-- what is tracked by name: a list or dict that may change, one that is walked just now, an instance -/
inductive Cell where
  | con (d : D) | lck (d : D) | ins (C : Str) (fs : List (Str × D))
abbrev Store := List Cell

/-- a container at an address of G, its things by F -/
def CRep (K : PySem.W.Frag) (F : Hp) (ι : List Addr) (G : Hp) (a : Addr) : D → Prop
  | .lst ds => ∃ vs, G a = some (.lst vs) ∧ Reps K F ι vs ds
  | .dK es => ∃ kvs, G a = some (.dK kvs) ∧ kvs.map (·.1) = es.map (·.1) ∧ Reps K F ι (kvs.map (·.2)) (es.map (·.2))
  | .dT es => ∃ kvs, G a = some (.dT kvs) ∧ kvs.map (·.1) = es.map (·.1) ∧ Reps K F ι (kvs.map (·.2)) (es.map (·.2))
  | _ => False
/-- the same, locked -/
def LRep (K : PySem.W.Frag) (F : Hp) (ι : List Addr) (G : Hp) (a : Addr) : D → Prop
  | .lst ds => ∃ o vs, G a = some (.frz o (.lst vs)) ∧ Reps K F ι vs ds
  | .dK es => ∃ o kvs, G a = some (.frz o (.dK kvs)) ∧ kvs.map (·.1) = es.map (·.1) ∧ Reps K F ι (kvs.map (·.2)) (es.map (·.2))
  | .dT es => ∃ o kvs, G a = some (.frz o (.dT kvs)) ∧ kvs.map (·.1) = es.map (·.1) ∧ Reps K F ι (kvs.map (·.2)) (es.map (·.2))
  | _ => False
/-- the program's facts -/
structure Pg where
  P : Program
  w : World
  K : PySem.W.Frag
  mg : Str → Option Value
  base : Heap
  cls : Str → Option Addr
  con : Str → Option D
def IRep (p : Pg) (F : Hp) (ι : List Addr) (G : Hp) (a : Addr) (C : Str) (fs : List (Str × D)) : Prop :=
  ∃ Ca dx fv, p.cls C = some Ca ∧ G a = some (.ins Ca dx fv) ∧ fv.map (·.1) = fs.map (·.1) ∧ Reps p.K F ι (fv.map (·.2)) (fs.map (·.2))
def CellRep (p : Pg) (F : Hp) (ι : List Addr) (G : Hp) (a : Addr) : Cell → Prop
  | .con d => CRep p.K F ι G a d
  | .lck d => LRep p.K F ι G a d
  | .ins C fs => IRep p F ι G a C fs

theorem CRep.le {K : PySem.W.Frag} {F F' G G' : Hp} {ι ι' : List Addr} {a : Addr} {d : D} (h : LeH F F') (g : LeA ι ι') (e : G' a = G a) (r : CRep K F ι G a d) : CRep K F' ι' G' a d := by
  cases d <;> simp only [CRep] at r ⊢
  · obtain ⟨vs, a, b⟩ := r; exact ⟨vs, e.trans a, b.le h g⟩
  · obtain ⟨vs, a, c, b⟩ := r; exact ⟨vs, e.trans a, c, b.le h g⟩
  · obtain ⟨vs, a, c, b⟩ := r; exact ⟨vs, e.trans a, c, b.le h g⟩
theorem LRep.le {K : PySem.W.Frag} {F F' G G' : Hp} {ι ι' : List Addr} {a : Addr} {d : D} (h : LeH F F') (g : LeA ι ι') (e : G' a = G a) (r : LRep K F ι G a d) : LRep K F' ι' G' a d := by
  cases d <;> simp only [LRep] at r ⊢
  · obtain ⟨o, vs, a, b⟩ := r; exact ⟨o, vs, e.trans a, b.le h g⟩
  · obtain ⟨o, vs, a, c, b⟩ := r; exact ⟨o, vs, e.trans a, c, b.le h g⟩
  · obtain ⟨o, vs, a, c, b⟩ := r; exact ⟨o, vs, e.trans a, c, b.le h g⟩
theorem CellRep.le {p : Pg} {F F' G G' : Hp} {ι ι' : List Addr} {a : Addr} {c : Cell} (h : LeH F F') (g : LeA ι ι') (e : G' a = G a) (r : CellRep p F ι G a c) : CellRep p F' ι' G' a c := by
  cases c with
  | con d => exact CRep.le h g e r
  | lck d => exact LRep.le h g e r
  | ins C fs =>
    obtain ⟨Ca, dx, fv, h1, h2, h3, h4⟩ := r
    exact ⟨Ca, dx, fv, h1, e.trans h2, h3, h4.le h g⟩

/-! ## names' values -/
inductive Slot where
  | un | fz (d : D) | own (d : D)
abbrev Env' := List Slot

/-- a dict may be locked meanwhile -/
def SubH (H : Hp) (a : Addr) (o : HO) : Prop := H a = some o ∨ (((∃ kvs, o = .dK kvs) ∨ (∃ kvs, o = .dT kvs)) ∧ ∃ ob, H a = some (.frz ob o))
/-- a tuple as it stands -/
def TupAt (H : Hp) (a : Addr) (vs : List V) : Prop := H a = some (.tup vs)
theorem TupAt.sq {K : PySem.W.Frag} {H : Hp} {a : Addr} {vs : List V} (h : TupAt H a vs) : SqT K H a vs := .inl (.inl h)
/-- never changed while it stands there -/
def Loose : HO → Prop
  | .frz _ _ => True
  | .tup _ => True
  | _ => False
def NoT : HO → Prop
  | .tup _ => False
  | _ => True
/-- what stands, whatever the names hold: the frozen part, the store, what others keep -/
structure Wd (p : Pg) (Pr : Hp) (S : Store) (F : Hp) (ι : List Addr) (H : Hp) : Prop where
  sub : ∀ a o, F a = some o → SubH H a o
  con : ∀ x d, p.con x = some d → ∃ u v, p.mg x = some u ∧ RelV v u ∧ Rep p.K F ι v d
  len : ι.length = S.length
  nd : ι.Nodup
  cell : ∀ (n : Nat) (c : Cell) (a : Addr), S[n]? = some c → ι[n]? = some a → F a = none ∧ CellRep p F ι H a c
  prot : ∀ a o, Pr a = some o → H a = some o ∧ (F a = none ∨ Loose o) ∧ ∀ (n : Nat) (c : Cell), ι[n]? = some a → S[n]? = some c → ∃ d, c = .lck d
/-- the names too: their places in α for own containers -/
structure Rel (p : Pg) (Pr : Hp) (ρ : Env') (S : Store) (F : Hp) (ι : List Addr) (α : Nat → Addr) (σ : L2.St) (H : Hp) : Prop where
  wd : Wd p Pr S F ι H
  fz : ∀ (i : Nat) (d : D), ρ[i]? = some (.fz d) → ∃ v, σ[i]? = some (some v) ∧ Rep p.K F ι v d
  own : ∀ (i : Nat) (d : D), ρ[i]? = some (.own d) → σ[i]? = some (some (.ref (α i))) ∧ F (α i) = none ∧ α i ∉ ι ∧ CRep p.K F ι H (α i) d ∧ Pr (α i) = none
  lng : ρ.length ≤ σ.length
  inj : ∀ (i j : Nat) (d e : D), ρ[i]? = some (.own d) → ρ[j]? = some (.own e) → α i = α j → i = j

theorem CRep.there {K : PySem.W.Frag} {F G : Hp} {ι : List Addr} {a : Addr} {d : D} (r : CRep K F ι G a d) : ∃ o, G a = some o ∧ Mut (some o) ∧ NoT o ∧ ¬ Loose o := by
  cases d <;> simp only [CRep] at r
  · obtain ⟨vs, a, b⟩ := r; exact ⟨_, a, trivial, trivial, id⟩
  · obtain ⟨vs, a, c, b⟩ := r; exact ⟨_, a, trivial, trivial, id⟩
  · obtain ⟨vs, a, c, b⟩ := r; exact ⟨_, a, trivial, trivial, id⟩
theorem LRep.there {K : PySem.W.Frag} {F G : Hp} {ι : List Addr} {a : Addr} {d : D} (r : LRep K F ι G a d) : ∃ ob o, G a = some (.frz ob o) := by
  cases d <;> simp only [LRep] at r
  · obtain ⟨o, vs, a, b⟩ := r; exact ⟨_, _, a⟩
  · obtain ⟨o, vs, a, c, b⟩ := r; exact ⟨_, _, a⟩
  · obtain ⟨o, vs, a, c, b⟩ := r; exact ⟨_, _, a⟩
theorem CellRep.there {p : Pg} {F G : Hp} {ι : List Addr} {a : Addr} {c : Cell} (r : CellRep p F ι G a c) : ∃ o, G a = some o ∧ NoT o := by
  cases c with
  | con d => obtain ⟨o, h, _, t, _⟩ := CRep.there r; exact ⟨o, h, t⟩
  | lck d => obtain ⟨ob, o, h⟩ := LRep.there r; exact ⟨_, h, trivial⟩
  | ins C fs => obtain ⟨Ca, dx, fv, _, h, _⟩ := r; exact ⟨_, h, trivial⟩
end Z

set_option Elab.async false
set_option linter.all false
set_option maxRecDepth 100000
set_option maxHeartbeats 4000000
namespace Z
open PySem PySem.Spec PyProof.Rows L2

/-! # operations on plain data -/
mutual
def D.py : D → PyData
  | .non => .none | .bl b => .bool b | .int i => .int i | .str x => .str x
  | .lst xs => .list (pys xs) | .tup xs => .tuple (pys xs)
  | .dK _ => .none | .dT _ => .none | .ref _ => .none
  | .ctup xs => .tuple (pys xs)
def pys : List D → List PyData
  | [] => []
  | x :: xs => x.py :: pys xs
end
mutual
/-- no dicts, nothing of the store -/
def D.plain : D → Bool
  | .non => true | .bl _ => true | .int _ => true | .str x => PyData.strOk x
  | .lst xs => plains xs | .tup xs => plains xs
  | .dK _ => false | .dT _ => false | .ref _ => false
  | .ctup xs => plains xs
def plains : List D → Bool
  | [] => true
  | x :: xs => x.plain && plains xs
end
mutual
/-- no such tuple of the top anywhere -/
def D.noc : D → Bool
  | .non => true | .bl _ => true | .int _ => true | .str _ => true
  | .lst xs => nocs xs | .tup xs => nocs xs
  | .dK _ => true | .dT _ => true | .ref _ => true
  | .ctup _ => false
def nocs : List D → Bool
  | [] => true
  | x :: xs => x.noc && nocs xs
end
def D.dep (d : D) : Nat := d.py.depth
def keyP : Key → PyData
  | .inl i => .int i | .inr x => .str x
mutual
/-- what repr sees, dicts too -/
def D.pyr : D → PyData
  | .non => .none | .bl b => .bool b | .int i => .int i | .str x => .str x
  | .lst xs => .list (pyrs xs) | .tup xs => .tuple (pyrs xs)
  | .dK es => .dict (pyrk es) | .dT _ => .none | .ref _ => .none
  | .ctup xs => .tuple (pyrs xs)
def pyrs : List D → List PyData
  | [] => []
  | x :: xs => x.pyr :: pyrs xs
def pyrp : Key × D → PyData × PyData
  | (k, d) => (keyP k, d.pyr)
def pyrk : List (Key × D) → List (PyData × PyData)
  | [] => []
  | x :: xs => pyrp x :: pyrk xs
end
mutual
/-- nothing of the store, no dict whose keys are tuples -/
def D.shw : D → Bool
  | .non => true | .bl _ => true | .int _ => true | .str _ => true
  | .lst xs => shws xs | .tup xs => shws xs
  | .dK es => shwk es | .dT _ => false | .ref _ => false
  | .ctup xs => shws xs
def shws : List D → Bool
  | [] => true
  | x :: xs => x.shw && shws xs
def shwp : Key × D → Bool
  | (_, d) => d.shw
def shwk : List (Key × D) → Bool
  | [] => true
  | x :: xs => shwp x && shwk xs
end
def isSeqD : D → Bool
  | .lst _ => true | .tup _ => true | .ctup _ => true
  | _ => false
def okShw (d : D) : Bool := isSeqD d && (d.shw && (decide (d.pyr.depth ≤ 60) && (d.pyr.showable && decide (d.pyr.shown.length ≤ sizeLine))))
def D.fit (d : D) : Bool := d.plain && decide (d.dep ≤ 60)
def fits (ds : List D) : Bool := (D.lst ds).fit
def eqD (a b : D) : Bool := PyData.eqv a.py b.py
def ltD (a b : D) : Bool := PySem.W.dataLt a.py b.py
def likeD (a b : D) : Bool := PySem.W.alike a.py b.py
def D.isNon : D → Bool
  | .non => true
  | _ => false
def okEq (a b : D) : Bool := a.fit && b.fit
def okLt (a b : D) : Bool := a.fit && (b.fit && (likeD a b && !a.isNon))
/-- all alike, none of them None -/
def okAll (ds : List D) : Bool := fits ds && ((ds.all fun a => ds.all fun b => likeD a b) && ds.all fun a => !a.isNon)
def maxD (x : D) (xs : List D) : D := xs.foldl (fun a y => if ltD a y then y else a) x
def minD (x : D) (xs : List D) : D := xs.foldl (fun a y => if ltD y a then y else a) x

/-- a dict's key -/
def keyK : D → Option Key
  | .int i => some (.inl i) | .str x => some (.inr x)
  | _ => none
def keyKs : List D → Option (List Key)
  | [] => some []
  | x :: xs => match keyK x, keyKs xs with
    | some k, some ks => some (k :: ks)
    | _, _ => none
def keyT : D → Option (List Key)
  | .tup xs => keyKs xs
  | _ => none
def dK1 : Key → D
  | .inl i => .int i | .inr x => .str x
def dT1 (ks : List Key) : D := .tup (ks.map dK1)
section
variable {κ : Type} [DecidableEq κ] {β : Type}
def look (es : List (κ × β)) (k : κ) : Option β := (es.find? fun e => decide (e.1 = k)).map (·.2)
def dput (es : List (κ × β)) (k : κ) (v : β) : List (κ × β) := if (look es k).isSome then es.map (fun e => if e.1 = k then (e.1, v) else e) else es ++ [(k, v)]
def ddrop (es : List (κ × β)) (k : κ) : List (κ × β) := es.filter fun e => decide (e.1 ≠ k)
end
/-- what a dict has under a key: not a dict or not a key of its kind; nothing; something -/
def dget : D → D → Option (Option D)
  | .dK es, k => (keyK k).map (look es)
  | .dT es, k => (keyT k).map (look es)
  | _, _ => none
def dset : D → D → D → Option D
  | .dK es, k, v => match keyK k with
    | some k => if es.length < sizeLine then some (.dK (dput es k v)) else none
    | none => none
  | .dT es, k, v => match keyT k with
    | some k => if es.length < sizeLine then some (.dT (dput es k v)) else none
    | none => none
  | _, _, _ => none
def ddel : D → D → Option D
  | .dK es, k => (keyK k).map fun k => .dK (ddrop es k)
  | _, _ => none
def keysOf : D → Option (List D)
  | .dK es => some (es.map fun e => dK1 e.1)
  | .dT es => some (es.map fun e => dT1 e.1)
  | _ => none
def itemsOf : D → Option (List D)
  | .dK es => some (es.map fun e => .tup [dK1 e.1, e.2])
  | _ => none

def signs (x : Str) : List D := x.cps.toList.map fun c => .str ⟨#[c]⟩
/-- what a for walks -/
def itemsIn : D → Option (List D)
  | .lst xs => some xs | .tup xs => some xs
  | .str x => if x.length ≤ sizeLine then some (signs x) else none
  | .dK es => keysOf (.dK es) | .dT es => keysOf (.dT es)
  | .ctup xs => some xs
  | _ => none
def lenD : D → Option D
  | .lst xs => some (.int xs.length) | .tup xs => some (.int xs.length)
  | .str x => if x.length ≤ sizeLine then some (.int x.length) else none
  | .dK es => some (.int es.length)
  | .ctup xs => some (.int xs.length)
  | _ => none

instance {i j : Int} : Decidable (CMul i j) := by unfold CMul; infer_instance
instance {i j : Int} : Decidable (CDiv i j) := by unfold CDiv; infer_instance
def repS (x : Str) : Nat → Str
  | 0 => Str.empty
  | n + 1 => x ++ repS x n
def timesS (x : Str) (n : Nat) : Str := ⟨(List.replicate n x.cps).foldl (· ++ ·) #[]⟩
def binD : Operator → D → D → Option D
  | .Add, .int i, .int j => some (.int (i + j))
  | .Add, .str x, .str y => if x.length + y.length ≤ sizeLine then some (.str (x ++ y)) else none
  | .Add, .lst xs, .lst ys => if xs.length + ys.length ≤ sizeLine then some (.lst (xs ++ ys)) else none
  | .Add, .tup xs, .tup ys => if xs.length + ys.length ≤ sizeLine then some (.tup (xs ++ ys)) else none
  | .Sub, .int i, .int j => some (.int (i - j))
  | .Mult, .str x, .int n => if 2 ≤ n ∧ n ≤ 1000 ∧ 1 ≤ x.length ∧ x.length ≤ 1000 ∧ (timesS x n.toNat).length ≤ 1000000 then some (.str (timesS x n.toNat)) else none
  | .Mult, .int i, .int j => if CMul i j then some (.int (i * j)) else none
  | .FloorDiv, .int i, .int j => if CDiv i j then some (.int (i / j)) else none
  | .Mod, .int i, .int j => if 0 < j then some (.int (i % j)) else none
  | _, _, _ => none
def cmpD : CmpOp → D → D → Option Bool
  | .Eq, a, b => if okEq a b then some (eqD a b) else none
  | .NotEq, a, b => if okEq a b then some (!eqD a b) else none
  | .Lt, a, b => if okLt a b then some (ltD a b) else none
  | .Gt, a, b => if okLt a b then some (ltD b a) else none
  | .LtE, a, b => if okLt a b then some (!ltD b a) else none
  | .GtE, a, b => if okLt a b then some (!ltD a b) else none
  | .In, a, .lst bs => if a.fit && fits bs then some (bs.any fun b => eqD b a) else none
  | .NotIn, a, .lst bs => if a.fit && fits bs then some (!bs.any fun b => eqD b a) else none
  | .In, a, .tup bs => if a.fit && fits bs then some (bs.any fun b => eqD b a) else none
  | .NotIn, a, .tup bs => if a.fit && fits bs then some (!bs.any fun b => eqD b a) else none
  | .In, a, .ctup bs => if a.fit && fits bs then some (bs.any fun b => eqD b a) else none
  | .NotIn, a, .ctup bs => if a.fit && fits bs then some (!bs.any fun b => eqD b a) else none
  | .In, a, .dK es => (dget (.dK es) a).map (·.isSome)
  | .NotIn, a, .dK es => (dget (.dK es) a).map (!·.isSome)
  | .In, a, .dT es => (dget (.dT es) a).map (·.isSome)
  | .NotIn, a, .dT es => (dget (.dT es) a).map (!·.isSome)
  | .In, .str x, .str y => some (!(Builtin.Str.occurrences y x 0 y.length 1).isEmpty)
  | .NotIn, .str x, .str y => some (!(!(Builtin.Str.occurrences y x 0 y.length 1).isEmpty))
  | _, _, _ => none
def idxD : D → D → Option D
  | .lst xs, .int i => atI xs i
  | .tup xs, .int i => atI xs i
  | .ctup xs, .int i => atI xs i
  | .str x, .int i => if x.length ≤ sizeLine then (atI x.cps.toList i).map fun c => .str ⟨#[c]⟩ else none
  | .dK es, k => (dget (.dK es) k).join
  | .dT es, k => (dget (.dT es) k).join
  | _, _ => none
def cutL {α : Type} (xs : List α) (lo hi : Option Int) : List α := (xs.drop (HT.sIx xs.length 0 lo)).take (HT.sIx xs.length xs.length hi - HT.sIx xs.length 0 lo)
def slD : D → Option Int → Option Int → Option D
  | .lst xs, lo, hi => some (.lst (cutL xs lo hi))
  | .tup xs, lo, hi => some (.tup (cutL xs lo hi))
  | .str x, lo, hi => if x.length ≤ sizeLine then some (.str (cutS x lo hi)) else none
  | _, _, _ => none
def intOf : D → Option Int
  | .int i => some i
  | _ => none
def blOf : D → Option Bool
  | .bl b => some b
  | _ => none
def isoD (a : D) (neg : Bool) : D → Option D
  | .non => some (.bl (a.isNon != neg))
  | .bl b => match a with
    | .bl c => some (.bl ((c == b) != neg))
    | _ => none
  | _ => none

inductive Bi where
  | abs | len | max | min | sorted | list | tuple | dict | str | int | ord | repr | sum | any | all | bool | setLen
  deriving DecidableEq
def leD (a b : D) : Bool := !ltD b a
def sortD (xs : List D) : List D := xs.mergeSort leD
def okSort (xs : List D) : Bool := okAll xs && (decide (xs.length ≤ sizeLine) && ((xs.all fun d => match d with
  | .tup (_ :: _) => true
  | .ctup (_ :: _) => true
  | _ => false) || xs.all fun d => match d with
  | .tup _ => false
  | .ctup _ => false
  | _ => true))
def sortedD (xs : List D) : Option D := if okSort xs then some (.lst (sortD xs)) else none
def intKs {β : Type} : List (Key × β) → Option (List Int)
  | [] => some []
  | (.inl i, _) :: r => (intKs r).map (i :: ·)
  | _ => none
def strKs {β : Type} : List (Key × β) → Option (List Str)
  | [] => some []
  | (.inr x, _) :: r => (strKs r).map (x :: ·)
  | _ => none
def leSt (a b : Str) : Bool := !decide (b.cps.toList < a.cps.toList)
def sortI (ks : List Int) : List Int := ks.mergeSort fun a b => decide (a ≤ b)
def sortT (ks : List Str) : List Str := ks.mergeSort leSt
/-- sorted of a dict: its keys -/
def sortKD (es : List (Key × D)) : Option D := match intKs es with
  | some ks => if ks.length < 64 then some (.lst ((sortI ks).map .int)) else none
  | none => match strKs es with
    | some ks => if ks.length < 64 then some (.lst ((sortT ks).map .str)) else none
    | none => none
def reprD' (d : D) : Option D := if okShw d then some (.str d.pyr.shown) else none
/-- isinstance(x, T): 0 int, 1 tuple, 2 list -/
def isTyD : Nat → D → Bool
  | 0, .int _ => true
  | 0, .bl _ => true
  | 1, .tup _ => true
  | 1, .ctup _ => true
  | 2, .lst _ => true
  | _, _ => false
def strsOf : List D → Option (List Str)
  | [] => some []
  | .str x :: r => (strsOf r).map fun q => x :: q
  | _ :: _ => none
def joinD (x : Str) : D → Option D
  | .lst ds => (strsOf ds).bind fun ys => if (ys.map (·.length)).sum + ys.length * x.length ≤ 16777216 then some (.str (Txt.join x ys)) else none
  | _ => none
def bltD : Bi → List D → Option D
  | .abs, [.int i] => some (.int (if i < 0 then -i else i))
  | .len, [d] => lenD d
  | .max, [.int i, .int j] => some (.int (if j > i then j else i))
  | .min, [.int i, .int j] => some (.int (if j < i then j else i))
  | .max, [.tup a, .tup b] => if okAll [.tup a, .tup b] then some (maxD (.tup a) [.tup b]) else none
  | .min, [.tup a, .tup b] => if okAll [.tup a, .tup b] then some (minD (.tup a) [.tup b]) else none
  | .max, [.ctup a, .tup b] => if okAll [.ctup a, .tup b] then some (maxD (.ctup a) [.tup b]) else none
  | .max, [.tup a, .ctup b] => if okAll [.tup a, .ctup b] then some (maxD (.tup a) [.ctup b]) else none
  | .max, [.ctup a, .ctup b] => if okAll [.ctup a, .ctup b] then some (maxD (.ctup a) [.ctup b]) else none
  | .max, [.str a, .str b] => if okAll [.str a, .str b] then some (maxD (.str a) [.str b]) else none
  | .min, [.str a, .str b] => if okAll [.str a, .str b] then some (minD (.str a) [.str b]) else none
  | .max, [.lst (x :: xs)] => if okAll (x :: xs) && nocs (x :: xs) then some (maxD x xs) else none
  | .min, [.lst (x :: xs)] => if okAll (x :: xs) && nocs (x :: xs) then some (minD x xs) else none
  | .sorted, [.lst xs] => sortedD xs
  | .sorted, [.dK es] => sortKD es
  | .list, [.lst xs] => some (.lst xs)
  | .list, [.tup xs] => some (.lst xs)
  | .int, [.int i] => some (.int i)
  | .int, [.bl b] => some (.int (if b then 1 else 0))
  | .int, [.str x] => if x.length ≤ 640 then (intText? x).map D.int else none
  | .str, [.int i] => if i.natAbs.log2 < 1920 then some (.str (toString i)) else none
  | .ord, [.str x] => if x.length = 1 then some (.int (x.cps.getD 0 0 : Nat)) else none
  | .tuple, [.lst xs] => some (.tup xs)
  | .repr, [d] => if d.fit = true ∧ d.py.showable = true ∧ d.py.shown.length ≤ sizeLine then some (.str d.py.shown) else reprD' d
  | _, _ => none

/-! # the text in short, and what it does -/
inductive Cst where
  | non | bl (b : Bool) | int (i : Int) | str (x : Str)
  deriving DecidableEq
def Cst.d : Cst → D
  | .non => .non | .bl b => .bl b | .int i => .int i | .str x => .str x
/-- a constant of the text's top -/
inductive GC where
  | one (c : Cst) | many (cs : List Cst)
  deriving DecidableEq
def GC.d : GC → D
  | .one c => c.d
  | .many cs => .ctup (cs.map Cst.d)
/-- a target: a name's place, or names' places -/
inductive Tg where
  | nm (i : Nat) | nms (is : List Nat)
mutual
inductive Ex where
  | var (i : Nat)
  | cst (c : Cst)
  | glb (x : Str) (g : GC)
  | bin (o : Operator) (a b : Ex)
  | neg (a : Ex) | not (a : Ex)
  | and (a b : Ex) | or (a b : Ex)
  | ife (c a b : Ex)
  | cmp (o : CmpOp) (a b : Ex)
  | chn (o o' : CmpOp) (a b c : Ex)
  | iso (neg : Bool) (a b : Ex)
  | tup (as : Ar) | list (as : Ar)
  | dnew (t : Bool) | disp (ks vs : Ar)
  | idx (a b : Ex)
  | sl (a : Ex) (lo hi : Ar)
  | rev (a : Ex)
  | fld (a : Ex) (f : Str)
  | call (f : Str) (as : Ar)
  | mk (C : Str) (as : Ar)
  | meth (o : Ex) (m : Str) (as : Ar)
  | blt (b : Bi) (as : Ar)
  | get (o k : Ex) | getd (o k x : Ex)
  | comp (t : Tg) (it : It) (c : Ar) (e : Ex)
  | dcomp (t : Tg) (it : It) (c : Ar) (k v : Ex)
  | mref (e : Ex)
  | lrng (a b : Ex)
  | dcst (kvs : List (Cst × Cst))
  | dmrg (a b : Ex)
  | skey (f : Str) (e : Ex)
  | sitm (e : Ex)
  | sdt (e : Ex) | mdt (e : Ex)
  | iss (e : Ex)
  | ist (k : Nat) (e : Ex)
  | join (x : Str) (e : Ex)
  | lsl (a : Ex) (lo hi : Ar)
inductive Ar where
  | nil | cons (e : Ex) (as : Ar)
inductive It where
  | seq (e : Ex) | rng (a : Ex) | rng2 (a b : Ex) | items (e : Ex)
end
mutual
inductive Sm where
  | asg (t : Tg) (e : Ex)
  | own (i : Nat) (e : Ex)
  | par (is : List Nat) (es : Ar)
  | setf (o : Ex) (f : Str) (e : Ex)
  | seti (o k e : Ex)
  | app (o e : Ex)
  | pop (t : Option Tg) (o : Ex) (as : Ar)
  | expr (e : Ex)
  | aug (i : Nat) (o : Operator) (e : Ex)
  | augf (o : Ex) (f : Str) (p : Operator) (e : Ex)
  | ife (c : Ex) (a b : Sms)
  | for_ (t : Tg) (it : It) (b : Sms)
  | while_ (c : Ex) (b : Sms)
  | ret (e : Ex) | retN | brk | cnt | pass
inductive Sms where
  | nil | cons (s : Sm) (r : Sms)
  | frz (i : Nat) (r : Sms)
end

inductive Hd where
  | val (d : D) | slot (i : Nat)
def cont (ρ : Env') (S : Store) : Hd → Option D
  | .val (.ref n) => match S[n]? with
    | some (.con d) => some d
    | some (.lck d) => some d
    | _ => none
  | .val d => some d
  | .slot i => match ρ[i]? with
    | some (.own d) => some d
    | _ => none
/-- what an expression hands to an operation that only looks -/
def hOf (e : Ex) (ρ : Env') (S : Store) (r : Option (D × Store)) : Option (Hd × Store) := match e with
  | .var i => match ρ[i]? with
    | some (.own _) => some (.slot i, S)
    | some (.fz d) => some (.val d, S)
    | _ => none
  | _ => r.map fun x => (.val x.1, x.2)
def setC (S : Store) (n : Nat) (d : D) : Option Store := match S[n]? with
  | some (.con _) => some (S.set n (.con d))
  | _ => none
def isDct : Option D → Bool
  | some (.dK _) => true
  | some (.dT _) => true
  | _ => false
def isLst : Option D → Bool
  | some (.lst _) => true
  | _ => false
def bindT (t : Tg) (d : D) (ρ : Env') : Option Env' := match t with
  | .nm i => some (ρ.set i (.fz d))
  | .nms is => match d with
    | .tup ds => if ds.length = is.length then some ((is.zip ds).foldl (fun ρ p => ρ.set p.1 (.fz p.2)) ρ) else none
    | .ctup ds => if ds.length = is.length then some ((is.zip ds).foldl (fun ρ p => ρ.set p.1 (.fz p.2)) ρ) else none
    | _ => none
/-- the defs as functions; which attributes a class's instances have -/
structure Fns where
  fn : Str × Option Str → List D → Store → Option (D × Store)
  fld : Str → Str → Bool
def wipeS (ρ : Env') : List Nat → Env'
  | [] => ρ
  | v :: vs => (wipeS ρ vs).set v .un
def Tg.ix : Tg → List Nat
  | .nm i => [i]
  | .nms is => is
open Classical in
noncomputable def compGo (kp : Store → Prop) (f : D → Store → Option (Option D × Store)) : List D → Store → Option (List D × Store)
  | [], S => some ([], S)
  | x :: xs, S => (f x S).bind fun r => if kp r.2 then (compGo kp f xs r.2).map fun q => (match r.1 with
    | some d => d :: q.1
    | none => q.1, q.2) else none
/-- a dict of the store is locked while it is walked -/
def lockS (ρ : Env') (S : Store) : Hd → Option (Store × Option (Nat × D))
  | .val (.ref n) => match S[n]? with
    | some (.con (.dK es)) => some (S.set n (.lck (.dK es)), some (n, .dK es))
    | some (.con (.dT es)) => some (S.set n (.lck (.dT es)), some (n, .dT es))
    | some (.con _) => some (S, none)
    | some (.lck _) => some (S, none)
    | _ => none
  | .val _ => some (S, none)
  | .slot i => match ρ[i]? with
    | some (.own (.lst _)) => some (S, none)
    | _ => none
def noSlot : Hd → Bool
  | .val _ => true
  | .slot _ => false
def noOwn (ρ : Env') (is : List Nat) : Bool := is.all fun i => match ρ[i]? with
  | some (.own _) => false
  | _ => true
def freeS (S : Store) : Option (Nat × D) → Option Store
  | none => some S
  | some (n, d) => match S[n]? with
    | some (.lck _) => some (S.set n (.con d))
    | _ => none
def rngD (i : Int) (n : Nat) : List D := (List.range n).map fun (k : Nat) => .int (i + (k : Int))
def smallI (i : Int) : Bool := decide (-(2 ^ 62) ≤ i) && decide (i < 2 ^ 62)
def dsp : List D → List D → Option (List (Key × D))
  | [], [] => some []
  | k :: ks, v :: vs => match keyK k, dsp ks vs with
    | some k, some r => some ((k, v) :: r)
    | _, _ => none
  | _, _ => none
def ixO : List D → Option (Option Int)
  | [] => some none
  | [.int i] => some (some i)
  | _ => none
/-- {**u, **v} -/
def mrgD : D → D → Option D
  | .dK es, .dK fs => if es.length + fs.length ≤ sizeLine then some (.dK (fs.foldl (fun acc e => dput acc e.1 e.2) (es.foldl (fun acc e => dput acc e.1 e.2) []))) else none
  | _, _ => none
/-- by keys -/
def sortByD (xs ks : List D) : Option D := if okSort ks = true ∧ xs.length = ks.length then some (.lst (((xs.zip ks).mergeSort fun a b => leD a.2 b.2).map (·.1))) else none
open Classical in
noncomputable def keysG (f : D → Option (D × Store)) (S : Store) : List D → Option (List D)
  | [] => some []
  | x :: xs => (f x).bind fun r => if r.2 = S then (keysG f S xs).map fun ks => r.1 :: ks else none
def nodupD : List D → Bool
  | [] => true
  | x :: xs => (xs.all fun y => !eqD x y) && nodupD xs
/-- keys that a sort tells apart -/
def okDist (ks : List D) : Bool := okAll ks && (decide (ks.length ≤ sizeLine) && (nodupD ks && ks.all fun d => match d with
  | .int _ => true
  | .str _ => true
  | .tup _ => true
  | _ => false))
/-- sorted(d.items()) -/
def sitD : D → Option D
  | .dK es => if okDist (es.map fun e => dK1 e.1) then some (.lst ((es.mergeSort fun a b => leD (dK1 a.1) (dK1 b.1)).map fun e => .tup [dK1 e.1, e.2])) else none
  | .dT es => if okDist (es.map fun e => dT1 e.1) then some (.lst ((es.mergeSort fun a b => leD (dT1 a.1) (dT1 b.1)).map fun e => .tup [dT1 e.1, e.2])) else none
  | _ => none
/-- isinstance(x, str) -/
def isStrD : D → Bool
  | .str _ => true
  | _ => false
/-- sorted(d), max(d) of a dict whose keys are tuples -/
def sdtD : D → Option D
  | .dT es => sortedD (es.map fun e => dT1 e.1)
  | _ => none
def mdtD : D → Option D
  | .dT es => match es.map fun e => dT1 e.1 with
    | x :: xs => if okAll (x :: xs) && nocs (x :: xs) then some (maxD x xs) else none
    | [] => none
  | _ => none
/-- a dict comprehension's pairs, put one by one -/
def mkd : List D → List (Key × D) → Option (List (Key × D))
  | [], es => some es
  | .tup [k, v] :: r, es => (keyK k).bind fun k => mkd r (dput es k v)
  | _, _ => none
def newRef (S : Store) (d : D) : Option (D × Store) := match d with
  | .lst xs => some (.ref S.length, S ++ [.con (.lst xs)])
  | .dK xs => some (.ref S.length, S ++ [.con (.dK xs)])
  | .dT xs => some (.ref S.length, S ++ [.con (.dT xs)])
  | _ => none
mutual
noncomputable def evE (G : Fns) : Ex → Env' → Store → Option (D × Store)
  | .var i, ρ, S => match ρ[i]? with
    | some (.fz d) => some (d, S)
    | _ => none
  | .cst c, _, S => some (c.d, S)
  | .glb _ g, _, S => some (g.d, S)
  | .bin o a b, ρ, S => (hOf a ρ S (evE G a ρ S)).bind fun x => (hOf b ρ x.2 (evE G b ρ x.2)).bind fun y =>
      (cont ρ y.2 x.1).bind fun u => (cont ρ y.2 y.1).bind fun v => (binD o u v).map fun d => (d, y.2)
  | .neg a, ρ, S => (evE G a ρ S).bind fun x => (intOf x.1).map fun i => (.int (-i), x.2)
  | .not a, ρ, S => (evE G a ρ S).bind fun x => (blOf x.1).map fun b => (.bl (!b), x.2)
  | .and a b, ρ, S => (evE G a ρ S).bind fun x => (blOf x.1).bind fun c => if c then evE G b ρ x.2 else some (.bl false, x.2)
  | .or a b, ρ, S => (evE G a ρ S).bind fun x => (blOf x.1).bind fun c => if c then some (.bl true, x.2) else evE G b ρ x.2
  | .ife c a b, ρ, S => (evE G c ρ S).bind fun x => (blOf x.1).bind fun c => if c then evE G a ρ x.2 else evE G b ρ x.2
  | .cmp o a b, ρ, S => (hOf a ρ S (evE G a ρ S)).bind fun x => (hOf b ρ x.2 (evE G b ρ x.2)).bind fun y =>
      (cont ρ y.2 x.1).bind fun u => (cont ρ y.2 y.1).bind fun v => (cmpD o u v).map fun c => (.bl c, y.2)
  | .chn o o' a b c, ρ, S => (hOf a ρ S (evE G a ρ S)).bind fun x => (hOf b ρ x.2 (evE G b ρ x.2)).bind fun y =>
      (cont ρ y.2 x.1).bind fun u => (cont ρ y.2 y.1).bind fun v => (cmpD o u v).bind fun r =>
        if r then (hOf c ρ y.2 (evE G c ρ y.2)).bind fun z => (cont ρ z.2 y.1).bind fun v' => (cont ρ z.2 z.1).bind fun w => (cmpD o' v' w).map fun c => (.bl c, z.2) else some (.bl false, y.2)
  | .iso n a b, ρ, S => (evE G a ρ S).bind fun x => (evE G b ρ x.2).bind fun y => (isoD x.1 n y.1).map fun d => (d, y.2)
  | .tup as, ρ, S => (evA G as ρ S).bind fun x => if x.1.length ≤ sizeLine then some (.tup x.1, x.2) else none
  | .list as, ρ, S => (evA G as ρ S).bind fun x => if x.1.length ≤ sizeLine then some (.lst x.1, x.2) else none
  | .dnew t, _, S => some (if t then .dT [] else .dK [], S)
  | .disp ks vs, ρ, S => (evA G ks ρ S).bind fun x => (evA G vs ρ x.2).bind fun y => (dsp x.1 y.1).bind fun es =>
      if es.length ≤ 15 then some (.dK (es.foldl (fun acc e => dput acc e.1 e.2) []), y.2) else none
  | .idx a b, ρ, S => (hOf a ρ S (evE G a ρ S)).bind fun x => (evE G b ρ x.2).bind fun y =>
      (cont ρ y.2 x.1).bind fun u => (idxD u y.1).map fun d => (d, y.2)
  | .sl a lo hi, ρ, S => (hOf a ρ S (evE G a ρ S)).bind fun x => (evA G lo ρ x.2).bind fun y => (evA G hi ρ y.2).bind fun z =>
      (cont ρ z.2 x.1).bind fun u => (ixO y.1).bind fun lo => (ixO z.1).bind fun hi => (slD u lo hi).map fun d => (d, z.2)
  | .lsl a lo hi, ρ, S => (hOf a ρ S (evE G a ρ S)).bind fun x => (evA G lo ρ x.2).bind fun y => (evA G hi ρ y.2).bind fun z =>
      (cont ρ z.2 x.1).bind fun u => (ixO y.1).bind fun lo => (ixO z.1).bind fun hi => match u with
      | .lst xs => some (.lst (cutL xs lo hi), z.2)
      | _ => none
  | .rev a, ρ, S => (hOf a ρ S (evE G a ρ S)).bind fun x => (cont ρ x.2 x.1).bind fun u => match u with
      | .lst xs => some (.lst xs.reverse, x.2)
      | _ => none
  | .fld a f, ρ, S => (evE G a ρ S).bind fun x => match x.1 with
      | .ref n => (match x.2[n]? with
        | some (.ins C fs) => if G.fld C f then (fs.lookup f).map fun d => (d, x.2) else none
        | _ => none)
      | _ => none
  | .call f as, ρ, S => (evA G as ρ S).bind fun x => G.fn (f, none) x.1 x.2
  | .mk C as, ρ, S => (evA G as ρ S).bind fun x => (G.fn (C, some "__init__") (.ref x.2.length :: x.1) (x.2 ++ [.ins C []])).bind fun y => match y.1 with
      | .non => some (.ref x.2.length, y.2)
      | _ => none
  | .meth o m as, ρ, S => (evE G o ρ S).bind fun x => match x.1 with
      | .ref n => (match x.2[n]? with
        | some (.ins C fs) => if (fs.lookup m).isNone then (evA G as ρ x.2).bind fun y => G.fn (C, some m) (.ref n :: y.1) y.2 else none
        | _ => none)
      | _ => none
  | .blt b as, ρ, S => (evH G as ρ S).bind fun x => (x.1.mapM (cont ρ x.2)).bind fun ds => (bltD b ds).map fun d => (d, x.2)
  | .get o k, ρ, S => (hOf o ρ S (evE G o ρ S)).bind fun x => if isDct (cont ρ x.2 x.1) then (evE G k ρ x.2).bind fun y =>
      (cont ρ y.2 x.1).bind fun u => (dget u y.1).map fun r => (r.getD .non, y.2) else none
  | .getd o k d, ρ, S => (hOf o ρ S (evE G o ρ S)).bind fun x => if isDct (cont ρ x.2 x.1) then (evE G k ρ x.2).bind fun y => (evE G d ρ y.2).bind fun z =>
      (cont ρ z.2 x.1).bind fun u => (dget u y.1).map fun r => (r.getD z.1, z.2) else none
  | .comp t it c e, ρ, S => if noOwn ρ t.ix then (evI G it ρ S).bind fun w => (lockS ρ w.2.2 w.1).bind fun l =>
      (compGo (fun S' => cont ρ S' w.1 = cont ρ l.1 w.1) (fun d S' => (bindT t d (wipeS ρ t.ix)).bind fun ρ' => match c with
        | .nil => (evE G e ρ' S').map fun r => (some r.1, r.2)
        | .cons c _ => (evE G c ρ' S').bind fun q => (blOf q.1).bind fun b => if b then (evE G e ρ' q.2).map fun r => (some r.1, r.2) else some (none, q.2)) w.2.1 l.1).bind fun y =>
      (freeS y.2 l.2).bind fun S' => if y.1.length ≤ sizeLine then some (.lst y.1, S') else none else none
  | .dcomp t it c k v, ρ, S => if noOwn ρ t.ix then (evI G it ρ S).bind fun w => (lockS ρ w.2.2 w.1).bind fun l =>
      (compGo (fun S' => cont ρ S' w.1 = cont ρ l.1 w.1) (fun d S' => (bindT t d (wipeS ρ t.ix)).bind fun ρ' => match c with
        | .nil => (evE G k ρ' S').bind fun r => (evE G v ρ' r.2).map fun q => (some (.tup [r.1, q.1]), q.2)
        | .cons c _ => (evE G c ρ' S').bind fun q => (blOf q.1).bind fun b => if b then (evE G k ρ' q.2).bind fun r => (evE G v ρ' r.2).map fun q => (some (.tup [r.1, q.1]), q.2) else some (none, q.2)) w.2.1 l.1).bind fun y =>
      (freeS y.2 l.2).bind fun S' => if y.1.length ≤ sizeLine then (mkd y.1 []).map fun es => (.dK es, S') else none else none
  | .mref e, ρ, S => (evE G e ρ S).bind fun x => newRef x.2 x.1
  | .lrng a b, ρ, S => (evE G a ρ S).bind fun x => (evE G b ρ x.2).bind fun y => (intOf x.1).bind fun i => (intOf y.1).bind fun j => if smallI i && (smallI j && decide ((j - i).toNat ≤ 1000000)) then some (.lst (rngD i (j - i).toNat), y.2) else none
  | .dcst kvs, _, S => (dsp (kvs.map fun q => q.1.d) (kvs.map fun q => q.2.d)).bind fun es => if es.length ≤ 15 ∧ es ≠ [] then some (.dK (es.foldl (fun acc e => dput acc e.1 e.2) []), S) else none
  | .dmrg a b, ρ, S => (hOf a ρ S (evE G a ρ S)).bind fun x => (cont ρ x.2 x.1).bind fun u => (hOf b ρ x.2 (evE G b ρ x.2)).bind fun y => (cont ρ y.2 y.1).bind fun v => (mrgD u v).map fun d => (d, y.2)
  | .skey f a, ρ, S => (hOf a ρ S (evE G a ρ S)).bind fun x => (cont ρ x.2 x.1).bind fun u => match u with
      | .lst (y :: ys) => (keysG (fun d => G.fn (f, none) [d] x.2) x.2 (y :: ys)).bind fun ks => (sortByD (y :: ys) ks).map fun d => (d, x.2)
      | _ => none
  | .sitm a, ρ, S => (hOf a ρ S (evE G a ρ S)).bind fun x => (cont ρ x.2 x.1).bind fun u => (sitD u).map fun d => (d, x.2)
  | .sdt a, ρ, S => (hOf a ρ S (evE G a ρ S)).bind fun x => (cont ρ x.2 x.1).bind fun u => (sdtD u).map fun d => (d, x.2)
  | .mdt a, ρ, S => (hOf a ρ S (evE G a ρ S)).bind fun x => (cont ρ x.2 x.1).bind fun u => (mdtD u).map fun d => (d, x.2)
  | .iss a, ρ, S => (hOf a ρ S (evE G a ρ S)).bind fun x => (cont ρ x.2 x.1).bind fun u => if u.plain then some (.bl (isStrD u), x.2) else none
  | .ist k a, ρ, S => (hOf a ρ S (evE G a ρ S)).bind fun x => (cont ρ x.2 x.1).bind fun u => if u.plain then some (.bl (isTyD k u), x.2) else none
  | .join x a, ρ, S => (hOf a ρ S (evE G a ρ S)).bind fun y => (cont ρ y.2 y.1).bind fun u => (joinD x u).map fun d => (d, y.2)
noncomputable def evA (G : Fns) : Ar → Env' → Store → Option (List D × Store)
  | .nil, _, S => some ([], S)
  | .cons e as, ρ, S => (evE G e ρ S).bind fun x => (evA G as ρ x.2).map fun y => (x.1 :: y.1, y.2)
noncomputable def evH (G : Fns) : Ar → Env' → Store → Option (List Hd × Store)
  | .nil, _, S => some ([], S)
  | .cons e as, ρ, S => (hOf e ρ S (evE G e ρ S)).bind fun x => (evH G as ρ x.2).map fun y => (x.1 :: y.1, y.2)
noncomputable def evI (G : Fns) : It → Env' → Store → Option (Hd × List D × Store)
  | .seq e, ρ, S => (hOf e ρ S (evE G e ρ S)).bind fun x => (cont ρ x.2 x.1).bind fun u => (itemsIn u).map fun xs => (x.1, xs, x.2)
  | .rng a, ρ, S => (evE G a ρ S).bind fun x => (intOf x.1).bind fun j => if smallI j then some (.val .non, rngD 0 j.toNat, x.2) else none
  | .rng2 a b, ρ, S => (evE G a ρ S).bind fun x => (evE G b ρ x.2).bind fun y => (intOf x.1).bind fun i => (intOf y.1).bind fun j => if smallI i && smallI j then some (.val .non, rngD i (j - i).toNat, y.2) else none
  | .items e, ρ, S => (hOf e ρ S (evE G e ρ S)).bind fun x => (cont ρ x.2 x.1).bind fun u => (itemsOf u).map fun xs => (x.1, xs, x.2)
end

/-! ## statements -/
inductive Out where
  | nxt (ρ : Env') (S : Store) | ret (d : D) (S : Store) | brk (ρ : Env') (S : Store) | cnt (ρ : Env') (S : Store)
/-- a container changed: a name's own, or one of the store -/
def putC (ρ : Env') (S : Store) (h : Hd) (d : D) : Option (Env' × Store) := match h with
  | .slot i => some (ρ.set i (.own d), S)
  | .val (.ref n) => (setC S n d).map fun S' => (ρ, S')
  | _ => none
def setF (G : Fns) (S : Store) (n : Nat) (f : Str) (d : D) : Option Store := match S[n]? with
  | some (.ins C fs) => if fs.length < 1000 ∧ G.fld C f = true then some (S.set n (.ins C (fput fs f d))) else none
  | _ => none
where
  fput : List (Str × D) → Str → D → List (Str × D)
    | [], f, d => [(f, d)]
    | (g, x) :: r, f, d => if g = f then (g, d) :: r else (g, x) :: fput r f d
def setItem' : D → D → D → Option D
  | .lst xs, .int i, v => (ixN xs.length i).map fun j => .lst (xs.set j v)
  | .dK es, k, v => dset (.dK es) k v
  | .dT es, k, v => dset (.dT es) k v
  | _, _, _ => none
/-- what pop gives and leaves -/
def popD : D → List D → Option (D × D)
  | .lst xs, [] => (xs[xs.length - 1]?).map fun y => (y, .lst xs.dropLast)
  | .lst xs, [.int i] => if smallI i then (seqIndex? i xs.length).bind fun k => (xs[k]?).map fun y => (y, .lst (xs.eraseIdx k)) else none
  | .dK es, [k] => (keyK k).bind fun k => (look es k).map fun v => (v, .dK (ddrop es k))
  | .dK es, [k, x] => (keyK k).map fun k => match look es k with
    | some v => (v, .dK (ddrop es k))
    | none => (x, .dK es)
  | _, _ => none
open Classical in
noncomputable def forGo (kp : Store → Env' → Prop) (f : D → Env' → Store → Option Out) : List D → Env' → Store → Option Out
  | [], ρ, S => some (.nxt ρ S)
  | x :: xs, ρ, S => (f x ρ S).bind fun o => match o with
    | .nxt ρ' S' => if kp S' ρ' then forGo kp f xs ρ' S' else none
    | .cnt ρ' S' => if kp S' ρ' then forGo kp f xs ρ' S' else none
    | .brk ρ' S' => if kp S' ρ' then some (.brk ρ' S') else none
    | .ret d S' => if kp S' ρ then some (.ret d S') else none
def whGo (c : Env' → Store → Option (Bool × Store)) (f : Env' → Store → Option Out) : Nat → Env' → Store → Option Out
  | 0, _, _ => none
  | n + 1, ρ, S => (c ρ S).bind fun b => if b.1 then (f ρ b.2).bind fun o => match o with
    | .nxt ρ' S' => whGo c f n ρ' S'
    | .cnt ρ' S' => whGo c f n ρ' S'
    | .brk ρ' S' => some (.nxt ρ' S')
    | .ret d S' => some (.ret d S') else some (.nxt ρ b.2)
/-- how often a while may turn -/
def whMost : Nat := 2 ^ 60
def Out.after (o : Out) (l : Option (Nat × D)) : Option Out := match o with
  | .nxt ρ S => (freeS S l).map fun S => .nxt ρ S
  | .ret d S => (freeS S l).map fun S => .ret d S
  | .brk ρ S => (freeS S l).map fun S => .nxt ρ S
  | .cnt ρ S => (freeS S l).map fun S => .nxt ρ S
def isFresh : Ex → Bool
  | .list _ => true
  | .dnew _ => true
  | .disp _ _ => true
  | .comp _ _ _ _ => true
  | .dcomp _ _ _ _ _ => true
  | .blt .list _ => true
  | .blt .sorted _ => true
  | .blt .dict _ => true
  | .lrng _ _ => true
  | .dcst _ => true
  | .dmrg _ _ => true
  | .skey _ _ => true
  | .sitm _ => true
  | .sdt _ => true
  | .sl _ _ _ => false
  | _ => false
mutual
noncomputable def evS (G : Fns) : Sm → Env' → Store → Option Out
  | .asg t e, ρ, S => (evE G e ρ S).bind fun x => (bindT t x.1 ρ).map fun ρ' => .nxt ρ' x.2
  | .own i e, ρ, S => if isFresh e then (evE G e ρ S).bind fun x => match x.1 with
      | .lst xs => some (.nxt (ρ.set i (.own (.lst xs))) x.2)
      | .dK xs => some (.nxt (ρ.set i (.own (.dK xs))) x.2)
      | .dT xs => some (.nxt (ρ.set i (.own (.dT xs))) x.2)
      | _ => none else none
  | .par is es, ρ, S => (evA G es ρ S).bind fun x => if x.1.length = is.length then some (.nxt ((is.zip x.1).foldl (fun ρ p => ρ.set p.1 (.fz p.2)) ρ) x.2) else none
  | .setf o f e, ρ, S => (evE G e ρ S).bind fun x => (evE G o ρ x.2).bind fun y => match y.1 with
      | .ref n => (setF G y.2 n f x.1).map fun S' => .nxt ρ S'
      | _ => none
  | .seti o k e, ρ, S => (evE G e ρ S).bind fun x => (hOf o ρ x.2 (evE G o ρ x.2)).bind fun y => (evE G k ρ y.2).bind fun z =>
      (cont ρ z.2 y.1).bind fun u => (setItem' u z.1 x.1).bind fun d => (putC ρ z.2 y.1 d).map fun q => .nxt q.1 q.2
  | .app o e, ρ, S => (hOf o ρ S (evE G o ρ S)).bind fun x => if isLst (cont ρ x.2 x.1) then (evE G e ρ x.2).bind fun y => (cont ρ y.2 x.1).bind fun u => match u with
      | .lst xs => if xs.length < sizeLine then (putC ρ y.2 x.1 (.lst (xs ++ [y.1]))).map fun q => .nxt q.1 q.2 else none
      | _ => none else none
  | .pop t o as, ρ, S => (hOf o ρ S (evE G o ρ S)).bind fun x => (evA G as ρ x.2).bind fun y => if isLst (cont ρ x.2 x.1) = isLst (cont ρ y.2 x.1) ∧ isDct (cont ρ x.2 x.1) = isDct (cont ρ y.2 x.1) then (cont ρ y.2 x.1).bind fun u => (popD u y.1).bind fun r =>
      (putC ρ y.2 x.1 r.2).bind fun q => match t with
      | none => some (.nxt q.1 q.2)
      | some t => (bindT t r.1 q.1).map fun ρ' => .nxt ρ' q.2 else none
  | .expr e, ρ, S => (evE G e ρ S).map fun x => .nxt ρ x.2
  | .aug i o e, ρ, S => (evE G e ρ S).bind fun x => match ρ[i]? with
      | some (.fz u) => (match u, x.1 with
        | .int a, .int b => (match o with
          | .Add => some (.nxt (ρ.set i (.fz (.int (a + b)))) x.2)
          | .Sub => some (.nxt (ρ.set i (.fz (.int (a - b)))) x.2)
          | _ => none)
        | _, _ => none)
      | _ => none
  | .augf o f p e, ρ, S => (evE G o ρ S).bind fun x => match x.1 with
      | .ref n => (match x.2[n]? with
        | some (.ins C fs) => if G.fld C f = true then (match fs.lookup f with
          | some (.int a) => (evE G e ρ x.2).bind fun y => (match y.1, p, y.2[n]? with
            | .int b, .Add, some (.ins C' _) => if C' = C then (setF G y.2 n f (.int (a + b))).map fun S' => .nxt ρ S' else none
            | _, _, _ => none)
          | _ => none) else none
        | _ => none)
      | _ => none
  | .ife c a b, ρ, S => (evE G c ρ S).bind fun x => (blOf x.1).bind fun k => if k then evSs G a ρ x.2 else evSs G b ρ x.2
  | .for_ t it b, ρ, S => (evI G it ρ S).bind fun w => if noSlot w.1 then (lockS ρ w.2.2 w.1).bind fun l =>
      (forGo (fun S' ρ' => cont ρ' S' w.1 = cont ρ l.1 w.1) (fun d ρ' S' => (bindT t d ρ').bind fun ρ2 => evSs G b ρ2 S') w.2.1 ρ l.1).bind fun o => o.after l.2 else none
  | .while_ c b, ρ, S => whGo (fun ρ' S' => (evE G c ρ' S').bind fun x => (blOf x.1).map fun k => (k, x.2)) (fun ρ' S' => evSs G b ρ' S') whMost ρ S
  | .ret e, ρ, S => (evE G e ρ S).map fun x => .ret x.1 x.2
  | .retN, _, S => some (.ret .non S)
  | .brk, ρ, S => some (.brk ρ S)
  | .cnt, ρ, S => some (.cnt ρ S)
  | .pass, ρ, S => some (.nxt ρ S)
noncomputable def evSs (G : Fns) : Sms → Env' → Store → Option Out
  | .nil, ρ, S => some (.nxt ρ S)
  | .cons s r, ρ, S => (evS G s ρ S).bind fun o => match o with
    | .nxt ρ' S' => evSs G r ρ' S'
    | .ret d S' => some (.ret d S')
    | .brk ρ' S' => some (.brk ρ' S')
    | .cnt ρ' S' => some (.cnt ρ' S')
  | .frz i r, ρ, S => match ρ[i]? with
    | some (.own d) => evSs G r (ρ.set i (.fz d)) S
    | _ => none
end
/-- a def: its names' places (how many, the parameters first), its body -/
structure Fd where
  np : Nat
  ns : Nat
  body : Sms
structure Prog where
  defs : List ((Str × Option Str) × Fd)
  flds : List (Str × List Str)
def Prog.fld (T : Prog) (C f : Str) : Bool := match T.flds.lookup C with
  | some l => decide (f ∈ l)
  | none => false
noncomputable def runF (T : Prog) : Nat → Str × Option Str → List D → Store → Option (D × Store)
  | 0 => fun _ _ _ => none
  | n + 1 => fun f ds S => match T.defs.lookup f with
    | some fd => if ds.length = fd.np then (evSs ⟨runF T n, T.fld⟩ fd.body (ds.map Slot.fz ++ List.replicate (fd.ns - fd.np) .un) S).bind fun o => match o with
        | .ret d S' => some (d, S')
        | .nxt _ S' => some (.non, S')
        | _ => none else none
    | none => none
noncomputable def run (T : Prog) (n : Nat) : Fns := ⟨runF T n, T.fld⟩
end Z

set_option Elab.async false
set_option linter.all false
set_option maxRecDepth 100000
set_option maxHeartbeats 4000000
namespace Z
open PySem PySem.Spec PyProof.Rows L2

/-! # growing -/
structure Grow (F H F' H' : Hp) : Prop where
  h : LeH H H'
  f : LeH F F'
  new : ∀ a o, F' a = some o → F a = some o ∨ (H' a = some o ∧ (H a = none ∨ ∃ vs, o = .tup vs))
theorem Grow.refl {F H : Hp} : Grow F H F H := ⟨LeH.refl _, LeH.refl _, fun _ _ h => .inl h⟩
theorem Grow.one {F H : Hp} {a : Addr} {o : HO} (hF : F a = none) (hH : H a = none) : Grow F H (upd F a o) (upd H a o) :=
  ⟨LeH.upd hH, LeH.upd hF, fun b u e => by
    by_cases h : b = a
    · subst h; rw [upd_same] at e; cases e; exact .inr ⟨upd_same, .inl hH⟩
    · rw [upd_ne h] at e; exact .inl e⟩
theorem SubH.rd {H : Hp} {a : Addr} {o : HO} (s : SubH H a o) : Rd H a o := by
  rcases s with s | ⟨_, ob, s⟩
  · exact .inl s
  · exact .inr ⟨ob, s⟩
theorem SubH.le {H H' : Hp} {a : Addr} {o : HO} (h : LeH H H') (s : SubH H a o) : SubH H' a o := by
  rcases s with s | ⟨k, ob, s⟩
  · exact .inl (h _ _ s)
  · exact .inr ⟨k, ob, h _ _ s⟩
theorem SubH.lst {H : Hp} {a : Addr} {vs : List V} (s : SubH H a (.lst vs)) : H a = some (.lst vs) := by
  rcases s with s | ⟨⟨_, k⟩ | ⟨_, k⟩, _, _⟩
  · exact s
  · cases k
  · cases k
theorem SubH.tup {H : Hp} {a : Addr} {vs : List V} (s : SubH H a (.tup vs)) : TupAt H a vs := by
  rcases s with s | ⟨⟨_, k⟩ | ⟨_, k⟩, ob, q⟩
  · exact s
  · cases k
  · cases k
theorem SubH.frz {H : Hp} {a : Addr} {ob : Obj} {u : HO} (s : SubH H a (.frz ob u)) : H a = some (.frz ob u) := by
  rcases s with s | ⟨⟨_, k⟩ | ⟨_, k⟩, _, q⟩
  · exact s
  · cases k
  · cases k
theorem rd_sub {F H : Hp} (S : ∀ a o, F a = some o → SubH H a o) {a : Addr} {vs : List V} (r : Rd F a (.tup vs)) : Rd H a (.tup vs) := by
  rcases r with r | ⟨ob, r⟩
  · exact .inl (S _ _ r).tup
  · exact .inr ⟨ob, (S _ _ r).frz⟩
section
variable {p : Pg} {Pr : Hp} {ρ : Env'} {S : Store} {F F' : Hp} {ι : List Addr} {α : Nat → Addr} {σ : L2.St} {H H' : Hp}
theorem same_at {a : Addr} {o : HO} (h : LeH H H') (e : H a = some o) : H' a = H a := by
  rw [h _ _ e, e]
theorem Grow.none {a : Addr} {u : HO} (g : Grow F H F' H') (hF : F a = Option.none) (t : H a = some u) (n : NoT u) : F' a = Option.none := by
  cases e : F' a with
  | none => rfl
  | some o =>
    rcases g.new a o e with h | ⟨h, k | ⟨vs, k⟩⟩
    · rw [hF] at h; cases h
    · rw [t] at k; cases k
    · rw [g.h _ _ t] at h; cases h; rw [k] at n; exact n.elim
theorem Grow.trans {G I : Hp} (a : Grow F H F' H') (b : Grow F' H' G I) : Grow F H G I := ⟨a.h.trans b.h, a.f.trans b.f, fun x o e => by
  rcases b.new x o e with h | ⟨h, k⟩
  · rcases a.new x o h with h | ⟨h, k⟩
    · exact .inl h
    · exact .inr ⟨b.h _ _ h, k⟩
  · refine .inr ⟨h, k.imp (fun k => ?_) id⟩
    cases q : H x with
    | none => rfl
    | some u => rw [a.h _ _ q] at k; cases k⟩
theorem Wd.fresh (R : Wd p Pr S F ι H) {a : Addr} (h : H a = none) : F a = none := by
  cases e : F a with
  | none => rfl
  | some o =>
    rcases R.sub a o e with r | ⟨_, ob, r⟩
    · rw [h] at r; cases r
    · rw [h] at r; cases r
theorem Wd.notin (R : Wd p Pr S F ι H) {a : Addr} (h : H a = none) : a ∉ ι := fun hm => by
  obtain ⟨n, hn⟩ := List.getElem?_of_mem hm
  have hl : n < S.length := by rw [← R.len]; exact (List.getElem?_eq_some_iff.mp hn).1
  obtain ⟨_, t⟩ := R.cell n S[n] a (List.getElem?_eq_getElem hl) hn
  obtain ⟨o, t, _⟩ := t.there
  rw [h] at t; cases t
theorem Wd.grow (R : Wd p Pr S F ι H) (g : Grow F H F' H') : Wd p Pr S F' ι H' where
  sub := fun a o e => by
    rcases g.new a o e with h | ⟨h, _⟩
    · exact (R.sub a o h).le g.h
    · exact .inl h
  con := fun x d h => let ⟨u, v, h1, h2, h3⟩ := R.con x d h; ⟨u, v, h1, h2, h3.le g.f (LeA.refl _)⟩
  len := R.len
  nd := R.nd
  cell := fun n c a h1 h2 => by
    obtain ⟨q1, q2⟩ := R.cell n c a h1 h2
    obtain ⟨o, t, nt⟩ := q2.there
    exact ⟨g.none q1 t nt, q2.le g.f (LeA.refl _) (same_at g.h t)⟩
  prot := fun a o h => by
    obtain ⟨q1, q2, q3⟩ := R.prot a o h
    refine ⟨g.h _ _ q1, ?_, q3⟩
    by_cases hl : Loose o
    · exact .inr hl
    · rcases q2 with q2 | q2
      · refine .inl (g.none q2 q1 ?_)
        cases o <;> first | exact trivial | exact absurd trivial hl
      · exact .inr q2
theorem Rel.grow (R : Rel p Pr ρ S F ι α σ H) (g : Grow F H F' H') : Rel p Pr ρ S F' ι α σ H' where
  wd := R.wd.grow g
  fz := fun i d h => let ⟨v, h1, h2⟩ := R.fz i d h; ⟨v, h1, h2.le g.f (LeA.refl _)⟩
  own := fun i d h => by
    obtain ⟨h1, h2, h3, h4, h5⟩ := R.own i d h
    obtain ⟨o, t, _, nt, _⟩ := h4.there
    exact ⟨h1, g.none h2 t nt, h3, h4.le g.f (LeA.refl _) (same_at g.h t), h5⟩
  lng := R.lng
  inj := R.inj
end

/-! # what an operation sees -/
def CV (p : Pg) (F : Hp) (ι : List Addr) (H : Hp) (v : V) : D → Prop
  | .non => v = .non | .bl b => v = .bl b | .int i => v = .int i | .str x => v = .str x
  | .lst ds => ∃ a vs, v = .ref a ∧ SqL p.K H a vs ∧ Reps p.K F ι vs ds
  | .tup ds => ∃ a vs, v = .ref a ∧ TupAt H a vs ∧ Reps p.K F ι vs ds
  | .dK es => ∃ a kvs, v = .ref a ∧ Rd H a (.dK kvs) ∧ kvs.map (·.1) = es.map (·.1) ∧ Reps p.K F ι (kvs.map (·.2)) (es.map (·.2))
  | .dT es => ∃ a kvs, v = .ref a ∧ Rd H a (.dT kvs) ∧ kvs.map (·.1) = es.map (·.1) ∧ Reps p.K F ι (kvs.map (·.2)) (es.map (·.2))
  | .ref _ => False
  | .ctup ds => ∃ a vs, v = .ref a ∧ Rd H a (.tup vs) ∧ Reps p.K F ι vs ds
def HRep (p : Pg) (F : Hp) (ι : List Addr) (α : Nat → Addr) (v : V) : Hd → Prop
  | .val d => Rep p.K F ι v d
  | .slot i => v = .ref (α i)
section
variable {p : Pg} {Pr : Hp} {ρ : Env'} {S : Store} {F F' : Hp} {ι ι' : List Addr} {α : Nat → Addr} {σ : L2.St} {H H' : Hp} {v : V} {d : D} {h : Hd}
theorem HRep.le (a : LeH F F') (b : LeA ι ι') (r : HRep p F ι α v h) : HRep p F' ι' α v h := by
  cases h with
  | val d => exact Rep.le a b r
  | slot i => exact r
theorem CV.of_rep (s : ∀ a o, F a = some o → SubH H a o) (r : Rep p.K F ι v d) (hd : ∀ n, d ≠ .ref n) : CV p F ι H v d := by
  cases r with
  | non => rfl
  | bl b => rfl
  | int i => rfl
  | str x => rfl
  | lst a r => exact ⟨_, _, rfl, .of (s _ _ a).lst, r⟩
  | tup a r => exact ⟨_, _, rfl, (s _ _ a).tup, r⟩
  | dK a e r => exact ⟨_, _, rfl, (s _ _ a).rd, e, r⟩
  | dT a e r => exact ⟨_, _, rfl, (s _ _ a).rd, e, r⟩
  | ref e => exact absurd rfl (hd _)
  | ctup a r => exact ⟨_, _, rfl, rd_sub s a, r⟩
theorem CV.of_c {a : Addr} (r : CRep p.K F ι H a d) : CV p F ι H (.ref a) d := by
  cases d <;> simp only [CRep] at r
  · obtain ⟨vs, e, q⟩ := r; exact ⟨_, _, rfl, .inl (.inl e), q⟩
  · obtain ⟨vs, e, k, q⟩ := r; exact ⟨_, _, rfl, .inl e, k, q⟩
  · obtain ⟨vs, e, k, q⟩ := r; exact ⟨_, _, rfl, .inl e, k, q⟩
theorem CV.of_l {a : Addr} (r : LRep p.K F ι H a d) : CV p F ι H (.ref a) d := by
  cases d <;> simp only [LRep] at r
  · obtain ⟨o, vs, e, q⟩ := r; exact ⟨_, _, rfl, .inl (.inr ⟨_, e⟩), q⟩
  · obtain ⟨o, vs, e, k, q⟩ := r; exact ⟨_, _, rfl, .inr ⟨_, e⟩, k, q⟩
  · obtain ⟨o, vs, e, k, q⟩ := r; exact ⟨_, _, rfl, .inr ⟨_, e⟩, k, q⟩
theorem Wd.at {n : Nat} {c : Cell} (R : Wd p Pr S F ι H) (h : S[n]? = some c) : ∃ a, ι[n]? = some a ∧ F a = none ∧ CellRep p F ι H a c := by
  have hl : n < ι.length := by rw [R.len]; exact (List.getElem?_eq_some_iff.mp h).1
  exact ⟨ι[n], List.getElem?_eq_getElem hl, R.cell n c _ h (List.getElem?_eq_getElem hl)⟩
theorem cont_val (hd : ∀ n, d ≠ .ref n) : cont ρ S (.val d) = some d := by
  cases d <;> first | rfl | exact absurd rfl (hd _)
theorem cv_of (R : Rel p Pr ρ S F ι α σ H) (r : HRep p F ι α v h) (e : cont ρ S h = some d) : CV p F ι H v d := by
  cases h with
  | slot i =>
    cases (show v = .ref (α i) from r)
    simp only [cont] at e
    split at e
    · rename_i u hu
      cases e
      exact .of_c (R.own i _ hu).2.2.2.1
    · cases e
  | val u =>
    have r : Rep p.K F ι v u := r
    by_cases hr : ∃ n, u = .ref n
    · obtain ⟨n, rfl⟩ := hr
      cases r with
      | ref hn =>
        simp only [cont] at e
        split at e
        · rename_i c hc
          cases e
          obtain ⟨b, hb, _, q⟩ := R.wd.at hc
          rw [hn] at hb; cases hb
          exact .of_c q
        · rename_i c hc
          cases e
          obtain ⟨b, hb, _, q⟩ := R.wd.at hc
          rw [hn] at hb; cases hb
          exact .of_l q
        · cases e
    · have hd : ∀ n, u ≠ .ref n := fun n q => hr ⟨n, q⟩
      rw [cont_val hd] at e
      cases e
      exact .of_rep R.wd.sub r hd
mutual
theorem dp_of (s : ∀ a o, F a = some o → SubH H a o) : ∀ {d : D} {v : V}, Rep p.K F ι v d → d.plain = true → Dp p.K H v d.py
  | _, _, .non, _ => by rw [D.py]; exact .non
  | _, _, .bl b, _ => by rw [D.py]; exact .bl b
  | _, _, .int i, _ => by rw [D.py]; exact .int i
  | _, _, .str x, _ => by rw [D.py]; exact .str x
  | _, _, .lst a r, h => by rw [D.py]; rw [D.plain] at h; exact .lst (.of (s _ _ a).lst) (dps_of s r h)
  | _, _, .tup a r, h => by rw [D.py]; rw [D.plain] at h; exact .tup (s _ _ a).tup.sq (dps_of s r h)
  | _, _, .dK _ _ _, h => by rw [D.plain] at h; cases h
  | _, _, .dT _ _ _, h => by rw [D.plain] at h; cases h
  | _, _, .ref _, h => by rw [D.plain] at h; cases h
  | _, _, .ctup a r, h => by rw [D.py]; rw [D.plain] at h; exact .tup (.inl (rd_sub s a)) (dps_of s r h)
theorem dps_of (s : ∀ a o, F a = some o → SubH H a o) : ∀ {ds : List D} {vs : List V}, Reps p.K F ι vs ds → plains ds = true → DpAll p.K H vs (pys ds)
  | _, _, .nil, _ => by rw [pys]; exact .nil
  | _, _, .cons a r, h => by
    rw [plains, Bool.and_eq_true] at h
    rw [pys]
    exact .cons (dp_of s a h.1) (dps_of s r h.2)
end
theorem CV.dp (s : ∀ a o, F a = some o → SubH H a o) (r : CV p F ι H v d) (h : d.plain = true) : Dp p.K H v d.py := by
  cases d with
  | non => cases (show v = .non from r); rw [D.py]; exact .non
  | bl b => cases (show v = .bl b from r); rw [D.py]; exact .bl b
  | int i => cases (show v = .int i from r); rw [D.py]; exact .int i
  | str x => cases (show v = .str x from r); rw [D.py]; exact .str x
  | lst ds => obtain ⟨a, vs, rfl, q1, q2⟩ := r; rw [D.plain] at h; rw [D.py]; exact .lst q1 (dps_of s q2 h)
  | tup ds => obtain ⟨a, vs, rfl, q1, q2⟩ := r; rw [D.plain] at h; rw [D.py]; exact .tup q1.sq (dps_of s q2 h)
  | dK _ => rw [D.plain] at h; cases h
  | dT _ => rw [D.plain] at h; cases h
  | ref _ => rw [D.plain] at h; cases h
  | ctup ds => obtain ⟨a, vs, rfl, q1, q2⟩ := r; rw [D.plain] at h; rw [D.py]; exact .tup (.inl q1) (dps_of s q2 h)
end
mutual
theorem lay_plain : ∀ d : D, d.plain = true → d.py.canLay0 = true
  | .non, _ => by simp [D.py, PyData.canLay0]
  | .bl b, _ => by simp [D.py, PyData.canLay0]
  | .int i, _ => by simp [D.py, PyData.canLay0]
  | .str x, h => by rw [D.plain] at h; simp [D.py, PyData.canLay0, h]
  | .lst xs, h => by rw [D.plain] at h; rw [D.py, PyData.canLay0]; exact lays_plain xs h
  | .tup xs, h => by rw [D.plain] at h; rw [D.py, PyData.canLay0]; exact lays_plain xs h
  | .dK _, h => by rw [D.plain] at h; cases h
  | .dT _, h => by rw [D.plain] at h; cases h
  | .ref _, h => by rw [D.plain] at h; cases h
  | .ctup xs, h => by rw [D.plain] at h; rw [D.py, PyData.canLay0]; exact lays_plain xs h
theorem lays_plain : ∀ ds : List D, plains ds = true → PyData.canLayAll0 (pys ds) = true
  | [], _ => by simp [pys, PyData.canLayAll0]
  | d :: ds, h => by
    rw [plains, Bool.and_eq_true] at h
    rw [pys, PyData.canLayAll0, lay_plain d h.1, lays_plain ds h.2]; rfl
end
theorem shaped_of {d : D} (h : d.fit = true) : SeqAt.shaped d.py = true := by
  unfold D.fit at h
  simp only [Bool.and_eq_true, decide_eq_true_eq] at h
  unfold SeqAt.shaped
  rw [lay_plain d h.1, Bool.true_and, decide_eq_true_eq]
  have := h.2
  unfold D.dep at this
  omega
theorem fit_plain {d : D} (h : d.fit = true) : d.plain = true := by
  unfold D.fit at h
  simp only [Bool.and_eq_true] at h
  exact h.1
mutual
theorem py_inj : ∀ a b : D, a.plain = true → b.plain = true → a.noc = true → b.noc = true → a.py = b.py → a = b
  | .non, b, _, hb, _, hn, e => by cases b <;> simp_all [D.py, D.plain, D.noc]
  | .bl _, b, _, hb, _, hn, e => by cases b <;> simp_all [D.py, D.plain, D.noc]
  | .int _, b, _, hb, _, hn, e => by cases b <;> simp_all [D.py, D.plain, D.noc]
  | .str _, b, _, hb, _, hn, e => by cases b <;> simp_all [D.py, D.plain, D.noc]
  | .lst xs, b, ha, hb, na, hn, e => by
    cases b with
    | lst ys =>
      rw [D.plain] at ha hb
      rw [D.noc] at na hn
      rw [D.py, D.py] at e
      rw [pys_inj xs ys ha hb na hn (by injection e)]
    | _ => simp_all [D.py, D.plain, D.noc]
  | .tup xs, b, ha, hb, na, hn, e => by
    cases b with
    | tup ys =>
      rw [D.plain] at ha hb
      rw [D.noc] at na hn
      rw [D.py, D.py] at e
      rw [pys_inj xs ys ha hb na hn (by injection e)]
    | _ => simp_all [D.py, D.plain, D.noc]
  | .dK _, _, ha, _, _, _, _ => by rw [D.plain] at ha; cases ha
  | .dT _, _, ha, _, _, _, _ => by rw [D.plain] at ha; cases ha
  | .ref _, _, ha, _, _, _, _ => by rw [D.plain] at ha; cases ha
  | .ctup _, _, _, _, na, _, _ => by rw [D.noc] at na; cases na
theorem pys_inj : ∀ a b : List D, plains a = true → plains b = true → nocs a = true → nocs b = true → pys a = pys b → a = b
  | [], [], _, _, _, _, _ => rfl
  | [], _ :: _, _, _, _, _, e => by rw [pys, pys] at e; cases e
  | _ :: _, [], _, _, _, _, e => by rw [pys, pys] at e; cases e
  | x :: xs, y :: ys, ha, hb, na, hn, e => by
    rw [plains, Bool.and_eq_true] at ha hb
    rw [nocs, Bool.and_eq_true] at na hn
    rw [pys, pys] at e
    injection e with e1 e2
    rw [py_inj x y ha.1 hb.1 na.1 hn.1 e1, pys_inj xs ys ha.2 hb.2 na.2 hn.2 e2]
end
theorem nocs_mem : ∀ {ds : List D}, nocs ds = true → ∀ d ∈ ds, d.noc = true
  | d :: ds, h, e, he => by
    rw [nocs, Bool.and_eq_true] at h
    rcases List.mem_cons.mp he with rfl | he
    · exact h.1
    · exact nocs_mem h.2 e he
theorem pys_map : ∀ ds : List D, pys ds = ds.map D.py
  | [] => by rw [pys]; rfl
  | d :: ds => by rw [pys, pys_map ds]; rfl
theorem plains_mem : ∀ {ds : List D}, plains ds = true → ∀ d ∈ ds, d.plain = true
  | d :: ds, h, e, he => by
    rw [plains, Bool.and_eq_true] at h
    rcases List.mem_cons.mp he with rfl | he
    · exact h.1
    · exact plains_mem h.2 e he

/-! # judgements -/
section
variable (X : Cx)
def wE (e : Expr) : TE := fun σ H Q => ∀ pins s, Inv X pins σ H s → wpAny (model X.prog X.w) X.A (eval e X.env) (EP X pins σ Q) X.xe s
def wT (e : Expr) : TT := fun σ H Q => ∀ pins s, Inv X pins σ H s → wpAny (model X.prog X.w) X.A (isTrue e X.env (eval e X.env)) (TP X pins σ Q) X.xe s
def wA (es : List Expr) : TA := fun σ H Q => ∀ pos pins s, Inv X pins σ H s → wpAny (model X.prog X.w) X.A (spliced (backTo pos (starEach es X.env))) (AP X pins σ Q) X.xe s
def wS (st : Stmt) : TS := fun D σ H => ∀ pins s, Inv X pins σ H s → wpAny (model X.prog X.w) X.A (exec st X.env) (SP X pins D) X.xe s
def wSs (st : List Stmt) : TS := fun D σ H => ∀ pins s, Inv X pins σ H s → wpAny (model X.prog X.w) X.A (execs st X.env) (SP X pins D) X.xe s
end
section
variable {X : Cx} {e : Expr} {es : List Expr} {st : Stmt} {sts : List Stmt} {σ : L2.St} {H : Hp}
theorem peW : PE X e (wE X e) := ⟨fun pins s _ _ _ I h => h pins s I⟩
theorem ptW : PT X e (wT X e) := ⟨fun pins s _ _ _ I h => h pins s I⟩
theorem paW : PA X es (wA X es) := ⟨fun pos pins s _ _ _ I h => h pos pins s I⟩
theorem psW : PS X st (wS X st) := ⟨fun pins s _ _ _ I h => h pins s I⟩
theorem pssW : PSs X sts (wSs X sts) := ⟨fun pins s _ _ _ I h => h pins s I⟩
theorem wE_of {t : TE} {Q : VK} (h : PE X e t) (q : t σ H Q) : wE X e σ H Q := fun pins s I => h.run pins s σ H Q I q
theorem wT_of {t : TT} {Q : Bool → Hp → Prop} (h : PT X e t) (q : t σ H Q) : wT X e σ H Q := fun pins s I => h.run pins s σ H Q I q
theorem wA_of {t : TA} {Q : List V → Hp → Prop} (h : PA X es t) (q : t σ H Q) : wA X es σ H Q := fun pos pins s I => h.run pos pins s σ H Q I q
theorem wS_of {t : TS} {D : Ends} (h : PS X st t) (q : t D σ H) : wS X st D σ H := fun pins s I => h.run pins s σ H D I q
theorem wSs_of {t : TS} {D : Ends} (h : PSs X sts t) (q : t D σ H) : wSs X sts D σ H := fun pins s I => h.run pins s σ H D I q
end

def _root_.L2.Cx.pg (X : Cx) (cls : Str → Option Addr) (con : Str → Option D) : Pg := ⟨X.prog, X.w, X.K, X.mg, X.base, cls, con⟩
/-- where an expression stands: the names by places, the scope, which names' cells are its own -/
structure Good (p : Pg) (N : List Str) (sc : Scope) (fn : Str → Bool) (k : Nat) (X : Cx) : Prop where
  pg : X.pg p.cls p.con = p
  calm : X.calm = true
  hN : X.N = N
  nd : List.Nodup N
  sc : X.env.scope = sc
  fn : X.fn = fn
  xe : X.xe = fun _ _ => False
  room : Room k X.A
  grd : X.A.guards = some []
def FE (p : Pg) (X : Cx) (ρ : Env') (S : Store) (e : Expr) (r : Option (D × Store)) : Prop :=
  ∀ Pr F ι α σ H, Rel p Pr ρ S F ι α σ H → ∀ d S', r = some (d, S') → ∀ Q : VK,
    (∀ v F' ι' H', Rel p Pr ρ S' F' ι' α σ H' → LeH F F' → LeA ι ι' → Rep p.K F' ι' v d → Q v H') → wE X e σ H Q
def FH (p : Pg) (X : Cx) (ρ : Env') (S : Store) (e : Expr) (r : Option (Hd × Store)) : Prop :=
  ∀ Pr F ι α σ H, Rel p Pr ρ S F ι α σ H → ∀ h S', r = some (h, S') → ∀ Q : VK,
    (∀ v F' ι' H', Rel p Pr ρ S' F' ι' α σ H' → LeH F F' → LeA ι ι' → HRep p F' ι' α v h → Q v H') → wE X e σ H Q
def FT (p : Pg) (X : Cx) (ρ : Env') (S : Store) (e : Expr) (r : Option (D × Store)) : Prop :=
  ∀ Pr F ι α σ H, Rel p Pr ρ S F ι α σ H → ∀ b S', r = some (.bl b, S') → ∀ Q : Bool → Hp → Prop,
    (∀ F' ι' H', Rel p Pr ρ S' F' ι' α σ H' → LeH F F' → LeA ι ι' → Q b H') → wT X e σ H Q
def FA (p : Pg) (X : Cx) (ρ : Env') (S : Store) (es : List Expr) (r : Option (List D × Store)) : Prop :=
  ∀ Pr F ι α σ H, Rel p Pr ρ S F ι α σ H → ∀ ds S', r = some (ds, S') → ∀ Q : List V → Hp → Prop,
    (∀ vs F' ι' H', Rel p Pr ρ S' F' ι' α σ H' → LeH F F' → LeA ι ι' → Reps p.K F' ι' vs ds → Q vs H') → wA X es σ H Q
abbrev HReps (p : Pg) (F : Hp) (ι : List Addr) (α : Nat → Addr) : List V → List Hd → Prop := Paired (HRep p F ι α)
def FHs (p : Pg) (X : Cx) (ρ : Env') (S : Store) (es : List Expr) (r : Option (List Hd × Store)) : Prop :=
  ∀ Pr F ι α σ H, Rel p Pr ρ S F ι α σ H → ∀ hs S', r = some (hs, S') → ∀ Q : List V → Hp → Prop,
    (∀ vs F' ι' H', Rel p Pr ρ S' F' ι' α σ H' → LeH F F' → LeA ι ι' → HReps p F' ι' α vs hs → Q vs H') → wA X es σ H Q
end Z

set_option Elab.async false
set_option linter.all false
set_option maxRecDepth 100000
set_option maxHeartbeats 4000000
namespace Z
open PySem PySem.Spec PyProof.Rows L2

/-! # operations on values -/
def wR (X : Cx) (f : Value → Value → Sem Value) : R2 := fun x y H Q => ∀ pins s σ v u, Inv X pins σ H s → RelV x v → RelV y u → wpAny (model X.prog X.w) X.A (f v u) (EP X pins σ Q) X.xe s
theorem wR_ok {X : Cx} {f : Value → Value → Sem Value} : OpR X f (wR X f) := fun pins s σ _ _ _ v u _ I rx ry h => h pins s σ v u I rx ry
theorem wR_of {X : Cx} {f : Value → Value → Sem Value} {r : R2} (h : OpR X f r) {x y : V} {H : Hp} {Q : VK} (q : r x y H Q) : wR X f x y H Q := fun pins s σ v u I rx ry => h pins s σ H x y v u Q I rx ry q

theorem addSeq {prog : Program} {w : World} {A : Around} {E : Value → Shared → Prop} {s : Shared} {l b : Addr} {vs ws : List Value} {Q : Value → Shared → Prop} (hl : s.heap.IsList l vs.toArray) (hb : s.heap.IsList b ws.toArray) (hz : vs.length + ws.length ≤ sizeLine)
    (h : Q (.ref s.heap.objs.size) { s with heap := s.heap.push { cls := .type "list", data := .seq (vs ++ ws).toArray } }) : wpAny (model prog w) A (binaryOp .Add (.ref l) (.ref b)) Q E s := by
  obtain ⟨⟨c1, d1, t1, s1⟩, g1, k1, n1, q1⟩ := id hl
  obtain ⟨⟨c2, d2, t2, s2⟩, g2, k2, n2, q2⟩ := id hb
  dsimp only at k1 q1 k2 q2
  subst k1 q1 k2 q2
  have e : (vs ++ ws).toArray = vs.toArray ++ ws.toArray := by simp
  rw [e] at h
  exact concat_meets ⟨_, g1, rfl⟩ ⟨_, g2, rfl⟩ noFill_list_add seq_list_add PySem.F.slot_list_add PySem.F.entry_list_add (PySem.F.args_list_add_2 _ _)
    (list_addW l b vs.toArray ws.toArray n1 n2 d1 d2 s1 s2 (by simpa using hz)) ⟨g1, g2, h⟩

section
variable {p : Pg} {X : Cx} {F H : Hp} {ι : List Addr} {x y : V} {u v d : D}
/-- a new list of the frozen part -/
theorem newL {Q : VK} {a : Addr} {vs : List V} {ds : List D} (S : ∀ a o, F a = some o → SubH H a o) (r : Reps p.K F ι vs ds) (ha : H a = none) (k : ∀ z F' H', Grow F H F' H' → Rep p.K F' ι z (.lst ds) → Q z H') : Q (.ref a) (upd H a (.lst vs)) := by
  have hF : F a = none := by
    cases e : F a with
    | none => rfl
    | some o => rcases S a o e with q | ⟨_, _, q⟩ <;> rw [ha] at q <;> cases q
  exact k _ _ _ (Grow.one hF ha) (.lst upd_same (r.le (LeH.upd hF) (LeA.refl _)))
theorem newT {Q : VK} {a : Addr} {vs : List V} {ds : List D} (S : ∀ a o, F a = some o → SubH H a o) (r : Reps p.K F ι vs ds) (ha : H a = none) (k : ∀ z F' H', Grow F H F' H' → Rep p.K F' ι z (.tup ds) → Q z H') : Q (.ref a) (upd H a (.tup vs)) := by
  have hF : F a = none := by
    cases e : F a with
    | none => rfl
    | some o => rcases S a o e with q | ⟨_, _, q⟩ <;> rw [ha] at q <;> cases q
  exact k _ _ _ (Grow.one hF ha) (.tup upd_same (r.le (LeH.upd hF) (LeA.refl _)))

theorem bin_ok (o : Operator) (hp : X.pg p.cls p.con = p) (S : ∀ a o, F a = some o → SubH H a o) (cx : CV p F ι H x u) (cy : CV p F ι H y v) (fx : Rep p.K F ι x u ∨ ∀ ds, u ≠ .tup ds) (fy : Rep p.K F ι y v ∨ ∀ ds, v ≠ .tup ds) (e : binD o u v = some d) {Q : VK} (k : ∀ z F' H', Grow F H F' H' → Rep p.K F' ι z d → Q z H') : wR X (binaryOp o) x y H Q := by
  have hK : X.K = p.K := by rw [← hp]; rfl
  unfold binD at e
  split at e
  · cases cx; cases cy; cases e
    exact wR_of op_add ⟨_, _, rfl, rfl, k _ _ _ .refl (.int _)⟩
  · split at e
    · rename_i hz
      cases cx; cases cy; cases e
      exact wR_of op_add_str ⟨_, _, rfl, rfl, hz, k _ _ _ .refl (.str _)⟩
    · cases e
  · split at e
    · rename_i hz
      cases e
      obtain ⟨a, vs, rfl, q1, r1⟩ := cx
      obtain ⟨b, ws, rfl, q2, r2⟩ := cy
      intro pins s σ v u I rx ry
      cases rx; cases ry
      rw [← hK] at q1 q2
      obtain ⟨its, w1, p1, _⟩ := I.list q1
      obtain ⟨its2, w2, p2, _⟩ := I.list q2
      have hz' : vs.length + ws.length ≤ sizeLine := by rw [r1.length, r2.length]; exact hz
      refine addSeq p1.isList p2.isList (by rw [← w1.length, ← w2.length]; exact hz') ?_
      refine ⟨.ref s.heap.objs.size, _, I.lnew (ys := vs ++ ws) (w1.append w2) (by rw [List.length_append]; exact hz'), rfl, ?_⟩
      exact newL S (r1.app r2) (I.hok.fresh (Nat.le_refl _)) k
    · cases e
  · split at e
    · rename_i hz
      cases e
      obtain ⟨a, vs, rfl, q1, r1⟩ := cx
      obtain ⟨b, ws, rfl, q2, r2⟩ := cy
      refine wR_of op_catA ⟨a, b, vs, ws, rfl, rfl, q1.sq, q2.sq, by rw [r1.length, r2.length]; exact hz, fun h0 => ?_, fun h0 h1 => ?_, fun h0 h1 c hc => ?_⟩
      · subst h0
        cases r1
        rw [List.nil_append] at k
        exact k _ _ _ .refl (fy.resolve_right fun q => q _ rfl)
      · subst h1
        cases r2
        rw [List.append_nil] at k
        exact k _ _ _ .refl (fx.resolve_right fun q => q _ rfl)
      · exact newT S (r1.app r2) hc k
    · cases e
  · cases cx; cases cy; cases e
    exact wR_of op_sub ⟨_, _, rfl, rfl, k _ _ _ .refl (.int _)⟩
  · split at e
    · rename_i x n h
      obtain ⟨a1, a2, a3, a4, a5⟩ := h
      cases cx; cases cy; cases e
      intro pins s σ v u I rx ry
      obtain ⟨t, rfl⟩ := rx
      obtain ⟨t', rfl⟩ := ry
      have hz : sizeLine = 16777216 := sizeLine_eq
      have n1 : ¬ n < 1 := by omega
      have n2 : (n == 1 || x.length == 0) = false := by
        rw [Bool.or_eq_false_iff, beq_eq_false_iff_ne, beq_eq_false_iff_ne]
        constructor <;> omega
      refine P.mul_str ?_ (fun _ _ => ?_) (fun _ _ => ?_) ?_
      · rw [Bool.or_eq_false_iff, decide_eq_false_iff_not, decide_eq_false_iff_not]
        constructor <;> omega
      · have h1 : (x.length : Int) * n ≤ 1000 * 1000 := Int.mul_le_mul (by omega) (by omega) (by omega) (by omega)
        have h2 : (x.length : Int) ≤ (2 ^ 63 - 1) / n := Int.le_ediv_of_mul_le (by omega) (by omega)
        omega
      · have : x.length * n.toNat ≤ 1000 * 1000 := Nat.mul_le_mul a4 (by omega)
        unfold Builtin.Str.tooLong
        rw [decide_eq_false_iff_not]
        omega
      · rw [if_neg n1, n2]
        exact ⟨by show (timesS x n.toNat).length ≤ sizeLine; omega, ⟨.str (timesS x n.toNat), H, I.tok _, ⟨_, rfl⟩, k _ _ _ .refl (.str _)⟩⟩
    · cases e
  · split at e
    · rename_i hz
      cases cx; cases cy; cases e
      exact wR_of op_mul ⟨_, _, rfl, rfl, hz, k _ _ _ .refl (.int _)⟩
    · cases e
  · split at e
    · rename_i hz
      cases cx; cases cy; cases e
      exact wR_of op_fdiv ⟨_, _, rfl, rfl, hz, k _ _ _ .refl (.int _)⟩
    · cases e
  · split at e
    · rename_i hz
      cases cx; cases cy; cases e
      exact wR_of op_mod ⟨_, _, rfl, rfl, hz, k _ _ _ .refl (.int _)⟩
    · cases e
  · cases e

end

/-! ## dicts -/
section
variable {κ : Type} [DecidableEq κ] {K : PySem.W.Frag} {F : Hp} {ι : List Addr}
/-- a dict's pairs, by values and by data -/
def RKV (K : PySem.W.Frag) (F : Hp) (ι : List Addr) (kvs : List (κ × V)) (es : List (κ × D)) : Prop := kvs.map (·.1) = es.map (·.1) ∧ Reps K F ι (kvs.map (·.2)) (es.map (·.2))
theorem RKV.len {kvs : List (κ × V)} {es : List (κ × D)} (r : RKV K F ι kvs es) : kvs.length = es.length := by
  have := congrArg List.length r.1
  rwa [List.length_map, List.length_map] at this
theorem RKV.nil : RKV K F ι ([] : List (κ × V)) [] := ⟨rfl, .nil⟩
theorem RKV.cons {k : κ} {v : V} {d : D} {kvs : List (κ × V)} {es : List (κ × D)} (a : Rep K F ι v d) (r : RKV K F ι kvs es) : RKV K F ι ((k, v) :: kvs) ((k, d) :: es) :=
  ⟨by rw [List.map_cons, List.map_cons, r.1], .cons a r.2⟩
theorem RKV.elim {kvs : List (κ × V)} {es : List (κ × D)} (r : RKV K F ι kvs es) : (kvs = [] ∧ es = []) ∨ ∃ k v d kvs' es', kvs = (k, v) :: kvs' ∧ es = (k, d) :: es' ∧ Rep K F ι v d ∧ RKV K F ι kvs' es' := by
  cases kvs with
  | nil =>
    cases es with
    | nil => exact .inl ⟨rfl, rfl⟩
    | cons e es => have := r.1; simp at this
  | cons kv kvs =>
    cases es with
    | nil => have := r.1; simp at this
    | cons e es =>
      obtain ⟨k, v⟩ := kv
      obtain ⟨k', d⟩ := e
      have h1 := r.1
      rw [List.map_cons, List.map_cons] at h1
      injection h1 with h1 h2
      have h3 : Reps K F ι (v :: kvs.map (·.2)) (d :: es.map (·.2)) := r.2
      cases h3 with
      | cons a b =>
        have h1 : k = k' := h1
        subst h1
        exact .inr ⟨k, v, d, kvs, es, rfl, rfl, a, h2, b⟩
theorem RKV.look (k : κ) : ∀ {kvs : List (κ × V)} {es : List (κ × D)}, RKV K F ι kvs es → (Z.look es k = none ∧ valV kvs k = none) ∨ ∃ v d, Z.look es k = some d ∧ valV kvs k = some v ∧ Rep K F ι v d := by
  intro kvs
  induction kvs with
  | nil =>
    intro es r
    rcases r.elim with ⟨_, rfl⟩ | ⟨_, _, _, _, _, h, _⟩
    · exact .inl ⟨rfl, rfl⟩
    · cases h
  | cons kv kvs ih =>
    intro es r
    rcases r.elim with ⟨h, _⟩ | ⟨k', v, d, kvs', es', h, rfl, a, b⟩
    · cases h
    · cases h
      by_cases e : k' = k
      · subst e
        exact .inr ⟨v, d, by simp [Z.look], by simp [valV], a⟩
      · rcases ih b with ⟨h1, h2⟩ | ⟨v', d', h1, h2, h3⟩
        · exact .inl ⟨by simpa [Z.look, e] using h1, by simpa [valV, e] using h2⟩
        · exact .inr ⟨v', d', by simpa [Z.look, e] using h1, by simpa [valV, e] using h2, h3⟩
theorem RKV.app {kvs kvs' : List (κ × V)} {es es' : List (κ × D)} (a : RKV K F ι kvs es) (b : RKV K F ι kvs' es') : RKV K F ι (kvs ++ kvs') (es ++ es') :=
  ⟨by rw [List.map_append, List.map_append, a.1, b.1], by rw [List.map_append, List.map_append]; exact a.2.app b.2⟩
theorem RKV.map (k : κ) {v : V} {d : D} (q : Rep K F ι v d) : ∀ {kvs : List (κ × V)} {es : List (κ × D)}, RKV K F ι kvs es →
    RKV K F ι (kvs.map fun e => if e.1 = k then (e.1, v) else e) (es.map fun e => if e.1 = k then (e.1, d) else e) := by
  intro kvs
  induction kvs with
  | nil =>
    intro es r
    rcases r.elim with ⟨_, rfl⟩ | ⟨_, _, _, _, _, h, _⟩
    · exact .nil
    · cases h
  | cons kv kvs ih =>
    intro es r
    rcases r.elim with ⟨h, _⟩ | ⟨k', w, e, kvs', es', h, rfl, a, b⟩
    · cases h
    · cases h
      rw [List.map_cons, List.map_cons]
      by_cases hk : k' = k
      · rw [if_pos hk, if_pos hk]; exact .cons q (ih b)
      · rw [if_neg hk, if_neg hk]; exact .cons a (ih b)
theorem RKV.put (k : κ) {v : V} {d : D} (q : Rep K F ι v d) {kvs : List (κ × V)} {es : List (κ × D)} (r : RKV K F ι kvs es) : RKV K F ι (putK kvs k v) (dput es k d) := by
  unfold putK dput
  rw [valV_any]
  rcases r.look k with ⟨h1, h2⟩ | ⟨_, _, h1, h2, _⟩
  · rw [h1, h2]
    exact r.app (.cons q .nil)
  · rw [h1, h2]
    exact r.map k q
theorem RKV.drop (k : κ) : ∀ {kvs : List (κ × V)} {es : List (κ × D)}, RKV K F ι kvs es → RKV K F ι (dropK kvs k) (ddrop es k) := by
  intro kvs
  induction kvs with
  | nil =>
    intro es r
    rcases r.elim with ⟨_, rfl⟩ | ⟨_, _, _, _, _, h, _⟩
    · exact .nil
    · cases h
  | cons kv kvs ih =>
    intro es r
    rcases r.elim with ⟨h, _⟩ | ⟨k', w, e, kvs', es', h, rfl, a, b⟩
    · cases h
    · cases h
      have := ih b
      unfold dropK ddrop at this ⊢
      by_cases hk : k' = k
      · rw [List.filter_cons_of_neg (by simp [hk]), List.filter_cons_of_neg (by simp [hk])]; exact this
      · rw [List.filter_cons_of_pos (by simp [hk]), List.filter_cons_of_pos (by simp [hk])]; exact .cons a this
theorem RKV.le {F' : Hp} {ι' : List Addr} (h : LeH F F') (g : LeA ι ι') {kvs : List (κ × V)} {es : List (κ × D)} (r : RKV K F ι kvs es) : RKV K F' ι' kvs es := ⟨r.1, r.2.le h g⟩
end
theorem keyK_rep {K : PySem.W.Frag} {F : Hp} {ι : List Addr} {v : V} {d : D} {k : Key} (r : Rep K F ι v d) (e : keyK d = some k) : v = kV k := by
  cases r <;> simp [keyK] at e <;> subst e <;> rfl
theorem keyKs_rep {K : PySem.W.Frag} {F : Hp} {ι : List Addr} : ∀ {ds : List D} {vs : List V} {ks : List Key}, Reps K F ι vs ds → keyKs ds = some ks → vs = ks.map kV
  | [], _, ks, r, e => by cases r; simp [keyKs] at e; subst e; rfl
  | d :: ds, _, ks, r, e => by
    cases r with
    | cons a b =>
      simp only [keyKs] at e
      split at e
      · rename_i k ks' h1 h2
        cases e
        rw [List.map_cons, keyK_rep a h1, keyKs_rep b h2]
      · cases e
section
variable {p : Pg} {X : Cx} {F H : Hp} {ι : List Addr} {x y v : V} {u k d : D}
theorem keyK_cv {ks : Key} (r : CV p F ι H v k) (e : keyK k = some ks) : v = kV ks := by
  cases k <;> simp [keyK] at e <;> subst e <;> exact r
theorem keyT_eq {d : D} {ks : List Key} (e : keyT d = some ks) : ∃ ds, d = .tup ds ∧ keyKs ds = some ks := by
  cases d <;> try cases e
  rename_i ds
  exact ⟨ds, rfl, e⟩
theorem keyT_cv {ks : List Key} (r : CV p F ι H v k) (e : keyT k = some ks) : ∃ b, v = .ref b ∧ H b = some (.tup (ks.map kV)) := by
  obtain ⟨ds, rfl, h1⟩ := keyT_eq e
  obtain ⟨a, vs, rfl, q1, q2⟩ := r
  have hv := keyKs_rep q2 h1
  subst hv
  exact ⟨a, rfl, q1⟩
theorem dget_ok (cx : CV p F ι H x u) (ry : CV p F ι H y k) {o : Option D} (e : dget u k = some o) : ∃ a o', x = .ref a ∧ DGet H a y o' ∧ IsD H a ∧ ((o = none ∧ o' = none) ∨ ∃ d v, o = some d ∧ o' = some v ∧ Rep p.K F ι v d) := by
  unfold dget at e
  split at e
  · rename_i es
    obtain ⟨key, h1, h2⟩ := Option.map_eq_some_iff.mp e
    obtain ⟨a, kvs, rfl, q1, q2, q3⟩ := cx
    refine ⟨a, valV kvs key, rfl, .inl ⟨kvs, key, q1, keyK_cv ry h1, rfl⟩, .inl ⟨_, q1⟩, ?_⟩
    rcases (show RKV p.K F ι kvs es from ⟨q2, q3⟩).look key with ⟨h3, h4⟩ | ⟨w, d, h3, h4, h5⟩
    · exact .inl ⟨by rw [← h2]; exact h3, h4⟩
    · exact .inr ⟨d, w, by rw [← h2]; exact h3, h4, h5⟩
  · rename_i es
    obtain ⟨key, h1, h2⟩ := Option.map_eq_some_iff.mp e
    obtain ⟨a, kvs, rfl, q1, q2, q3⟩ := cx
    obtain ⟨b, rfl, hb⟩ := keyT_cv ry h1
    refine ⟨a, valV kvs key, rfl, .inr ⟨kvs, key, b, q1, rfl, hb, rfl⟩, .inr ⟨_, q1⟩, ?_⟩
    rcases (show RKV p.K F ι kvs es from ⟨q2, q3⟩).look key with ⟨h3, h4⟩ | ⟨w, d, h3, h4, h5⟩
    · exact .inl ⟨by rw [← h2]; exact h3, h4⟩
    · exact .inr ⟨d, w, by rw [← h2]; exact h3, h4, h5⟩
  · cases e

theorem isNon_py {d : D} (h : d.isNon = false) (hf : d.plain = true) : d.py ≠ .none := by
  cases d <;> simp_all [D.isNon, D.py, D.plain]
theorem dep_fit {d : D} (h : d.fit = true) : d.py.depth ≤ 60 := by
  unfold D.fit at h
  simp only [Bool.and_eq_true, decide_eq_true_eq] at h
  exact h.2
theorem any_py (a : D) : ∀ bs : List D, ((pys bs).any fun b => PyData.eqv b a.py) = bs.any fun b => eqD b a
  | [] => by rw [pys]; rfl
  | b :: bs => by rw [pys, List.any_cons, List.any_cons, any_py a bs]; rfl
theorem in_room {X : Cx} {n : Nat} {a : D} {bs : List D} (hu : X.A.units + 64 < cLine) (ha : a.fit = true) : X.A.units + 1 + min n a.py.depth < cLine := by
  have h1 := dep_fit ha
  have h2 : min n a.py.depth ≤ a.py.depth := Nat.min_le_right _ _
  omega
theorem fits_lay {bs : List D} (h : fits bs = true) : PyData.canLayAll0 (pys bs) = true := lays_plain bs (by have := fit_plain h; rwa [D.plain] at this)
theorem cmp_ok (o : CmpOp) (hp : X.pg p.cls p.con = p) (hu : X.A.units + 64 < cLine) (S : ∀ a o, F a = some o → SubH H a o) (cx : CV p F ι H x u) (cy : CV p F ι H y k) {c : Bool} (e : cmpD o u k = some c) {Q : VK} (q : Q (.bl c) H) : wR X (compareOp o) x y H Q := by
  have hK : X.K = p.K := by rw [← hp]; rfl
  intro pins s σ vx vy I rx ry
  have rd : ∀ {d : D} {z : V} {w : Value}, CV p F ι H z d → d.plain = true → RelV z w → ∃ as, Reads s.heap w d.py as := fun cz hz rz => Dp.reads I _ _ _ (by rw [hK]; exact cz.dp S hz) rz
  have fin : EP X pins σ Q (.bool c) s := ⟨.bl c, H, I, rfl, q⟩
  have hu1 : X.A.units + 1 < cLine := by omega
  unfold cmpD at e
  split at e
  · split at e
    · rename_i h; cases e
      unfold okEq at h; rw [Bool.and_eq_true] at h
      obtain ⟨as, r1⟩ := rd cx (fit_plain h.1) rx
      obtain ⟨bs, r2⟩ := rd cy (fit_plain h.2) ry
      exact SeqAt.compareEq_shaped r1 r2 (shaped_of h.1) (shaped_of h.2) hu fin
    · cases e
  · split at e
    · rename_i h; cases e
      unfold okEq at h; rw [Bool.and_eq_true] at h
      obtain ⟨as, r1⟩ := rd cx (fit_plain h.1) rx
      obtain ⟨bs, r2⟩ := rd cy (fit_plain h.2) ry
      exact SeqAt.compareNe_shaped r1 r2 (shaped_of h.1) (shaped_of h.2) hu fin
    · cases e
  all_goals first
    | (split at e
       · rename_i h; cases e
         unfold okLt at h; simp only [Bool.and_eq_true, Bool.not_eq_true'] at h
         obtain ⟨h1, h2, h3, h4⟩ := h
         obtain ⟨as, r1⟩ := rd cx (fit_plain h1) rx
         obtain ⟨bs, r2⟩ := rd cy (fit_plain h2) ry
         have room : X.A.units + min u.py.depth k.py.depth < cLine := by
           have g1 := dep_fit h1
           have g2 : min u.py.depth k.py.depth ≤ u.py.depth := Nat.min_le_left _ _
           omega
         first
           | exact PySem.W.lt_data r1 r2 h3 (isNon_py h4 (fit_plain h1)) room fin
           | exact PySem.W.gt_data r1 r2 h3 (isNon_py h4 (fit_plain h1)) room fin
           | exact PySem.W.le_data r1 r2 h3 (isNon_py h4 (fit_plain h1)) room fin
           | exact PySem.W.ge_data r1 r2 h3 (isNon_py h4 (fit_plain h1)) room fin
       · cases e)
    | (split at e
       · rename_i h; cases e
         rw [Bool.and_eq_true] at h
         obtain ⟨as, r1⟩ := rd cx (fit_plain h.1) rx
         obtain ⟨bs, r2⟩ := rd cy (by first | exact fit_plain h.2 | (have g := fit_plain h.2; rw [D.plain] at g; rw [D.plain]; exact g)) ry
         rw [D.py] at r2
         rw [← any_py] at fin
         first
           | exact SeqAt.in_list_reads r2 r1 (fits_lay h.2) (lay_plain _ (fit_plain h.1)) (in_room (bs := []) hu h.1) fin
           | exact SeqAt.notIn_list_reads r2 r1 (fits_lay h.2) (lay_plain _ (fit_plain h.1)) (in_room (bs := []) hu h.1) fin
           | exact SeqAt.in_tuple_reads r2 r1 (fits_lay h.2) (lay_plain _ (fit_plain h.1)) (in_room (bs := []) hu h.1) fin
           | exact SeqAt.notIn_tuple_reads r2 r1 (fits_lay h.2) (lay_plain _ (fit_plain h.1)) (in_room (bs := []) hu h.1) fin
       · cases e)
    | (obtain ⟨r, h1, rfl⟩ := Option.map_eq_some_iff.mp e
       obtain ⟨a, o', rfl, g, _, hh⟩ := dget_ok cy cx h1
       cases (show vy = .ref a from ry)
       have hs : o'.isSome = r.isSome := by rcases hh with ⟨rfl, rfl⟩ | ⟨_, _, rfl, rfl, _⟩ <;> rfl
       rw [← hs] at q
       first
         | exact d_in hu1 I g rx fun s' I' => ⟨.bl _, H, I', rfl, q⟩
         | exact d_notIn hu1 I g rx fun s' I' => ⟨.bl _, H, I', rfl, q⟩)
    | skip
  · cases cx; cases cy; cases e
    exact op_in_str pins s σ H _ _ vx vy Q I rx ry ⟨_, _, rfl, rfl, q⟩
  · cases cx; cases cy; cases e
    exact op_notin_str pins s σ H _ _ vx vy Q I rx ry ⟨_, _, rfl, rfl, q⟩
  · cases e

theorem cutL_len {α : Type} (xs : List α) (lo hi : Option Int) : (cutL xs lo hi).length ≤ xs.length := by
  unfold cutL; rw [List.length_take, List.length_drop]; omega
theorem Reps.cut {K : PySem.W.Frag} {vs : List V} {ds : List D} (r : Reps K F ι vs ds) (lo hi : Option Int) : Reps K F ι (cutV vs lo hi) (cutL ds lo hi) := by
  unfold cutV cutL
  rw [r.length]
  exact (r.drop _).take _
theorem atI_rep {K : PySem.W.Frag} {vs : List V} {ds : List D} (r : Reps K F ι vs ds) {i : Int} {d : D} (e : atI ds i = some d) : ∃ z, atI vs i = some z ∧ Rep K F ι z d := by
  unfold atI at e ⊢
  rw [r.length]
  obtain ⟨j, h1, h2⟩ := Option.bind_eq_some_iff.mp e
  obtain ⟨z, h3, h4⟩ := r.at h2
  exact ⟨z, by rw [h1]; exact h3, h4⟩
/-- a[b], by values -/
def wIx (X : Cx) (b : Expr) : R2 := fun x y H Q => ∀ (a : Expr) pins s σ v u, Inv X pins σ H s → RelV x v → RelV y u → wpAny (model X.prog X.w) X.A (subscriptTail a b v u) (EP X pins σ Q) X.xe s
theorem pe_wIx {X : Cx} {a b : Expr} {ta tb : TE} {pos : Pos} (ha : PE X a ta) (hb : PE X b tb) : PE X (.Subscript a b pos) (tOp (wIx X b) ta tb) := by
  refine ⟨fun pins s σ H Q I h => ?_⟩
  exact Subscript_ (binT ha hb I h fun v u s2 x y H2 I2 rx ry q => q a pins s2 σ v u I2 rx ry)
theorem idx_ok (hp : X.pg p.cls p.con = p) (hu : X.A.units + 64 < cLine) {b : Expr} (hb : PlainIx b) (S : ∀ a o, F a = some o → SubH H a o) (cx : CV p F ι H x u) (cy : Rep p.K F ι y k) (e : idxD u k = some d) {Q : VK} (q : ∀ z, Rep p.K F ι z d → Q z H) : wIx X b x y H Q := by
  have hK : X.K = p.K := by rw [← hp]; rfl
  have hu1 : X.A.units + 1 < cLine := by omega
  have dict : ∀ {o : Option D}, dget u k = some o → o = some d → wIx X b x y H Q := by
    intro o h1 h2 a pins s σ v w I rx ry
    have hk : ∀ n, k ≠ .ref n := by
      intro n hn
      subst hn
      cases u <;> simp [dget, keyK, keyT] at h1
    obtain ⟨a', o', rfl, g, dd, hh⟩ := dget_ok cx (CV.of_rep S cy hk) h1
    rcases hh with ⟨h3, _⟩ | ⟨d', z, h3, rfl, h4⟩
    · rw [h2] at h3; cases h3
    · rw [h2] at h3; cases h3
      cases (show v = .ref a' from rx)
      obtain ⟨t1, t2, _⟩ := isD_at I dd
      exact tail_any t1 PySem.F.slot_dict_getitem.lookup (d_getItem hu1 I g ry fun w' s' I' rw' => ⟨z, H, I', rw', q z h4⟩) (hb _ _)
  unfold idxD at e
  split at e
  · cases cy
    obtain ⟨a, vs, rfl, q1, q2⟩ := cx
    obtain ⟨z, h1, h2⟩ := atI_rep q2 e
    intro a' pins s σ v w I rx ry
    exact ix_list a' b pins s σ H _ _ v w Q I rx ry ⟨a, vs, _, z, rfl, rfl, by rw [hK]; exact q1, h1, q z h2⟩ (hb _ _)
  · cases cy
    obtain ⟨a, vs, rfl, q1, q2⟩ := cx
    obtain ⟨z, h1, h2⟩ := atI_rep q2 e
    intro a' pins s σ v w I rx ry
    exact ix_tup a' b pins s σ H _ _ v w Q I rx ry ⟨a, vs, _, z, rfl, rfl, q1.sq, h1, q z h2⟩ (hb _ _)
  · cases cy
    obtain ⟨a, vs, rfl, q1, q2⟩ := cx
    obtain ⟨z, h1, h2⟩ := atI_rep q2 e
    intro a' pins s σ v w I rx ry
    exact ix_tup a' b pins s σ H _ _ v w Q I rx ry ⟨a, vs, _, z, rfl, rfl, .inl q1, h1, q z h2⟩ (hb _ _)
  · split at e
    · rename_i hz
      cases cy
      cases cx
      obtain ⟨c, h1, rfl⟩ := Option.map_eq_some_iff.mp e
      intro a' pins s σ v w I rx ry
      exact ix_str a' b pins s σ H _ _ v w Q I rx ry ⟨_, _, c, rfl, rfl, hz, h1, q _ (.str _)⟩ (hb _ _)
    · cases e
  · obtain ⟨o, h1, h2⟩ := Option.join_eq_some_iff.mp e |> fun h => (⟨_, h, rfl⟩ : ∃ o, dget _ k = some o ∧ o = some d)
    exact dict h1 h2
  · obtain ⟨o, h1, h2⟩ := Option.join_eq_some_iff.mp e |> fun h => (⟨_, h, rfl⟩ : ∃ o, dget _ k = some o ∧ o = some d)
    exact dict h1 h2
  · cases e
/-- a[lo:hi], by values -/
theorem sl_ok (hp : X.pg p.cls p.con = p) (S : ∀ a o, F a = some o → SubH H a o) (cx : CV p F ι H x u) (fx : Rep p.K F ι x u ∨ ∀ ds, u ≠ .tup ds) {lo hi : Option Int} (e : slD u lo hi = some d) {Q : VK} (k : ∀ z F' H', Grow F H F' H' → Rep p.K F' ι z d → Q z H') :
    rSlL X.K x lo hi H Q ∨ rSlA X.K x lo hi H Q ∨ rSlS x lo hi H Q := by
  have hK : X.K = p.K := by rw [← hp]; rfl
  unfold slD at e
  split at e
  · cases e
    obtain ⟨a, vs, rfl, q1, q2⟩ := cx
    exact .inl ⟨a, vs, rfl, by rw [hK]; exact q1, fun c hc => newL S (q2.cut lo hi) hc k⟩
  · cases e
    obtain ⟨a, vs, rfl, q1, q2⟩ := cx
    refine .inr (.inl ⟨a, vs, rfl, q1.sq, fun hw => ?_, fun _ c hc => newT S (q2.cut lo hi) hc k⟩)
    rename_i xs
    have e2 : cutL xs lo hi = xs := by
      unfold cutL
      rw [← q2.length, hw.1, hw.2, List.drop_zero, Nat.sub_zero, q2.length, List.take_length]
    rw [e2] at k
    exact k _ _ _ .refl (fx.resolve_right fun q => q _ rfl)
  · split at e
    · rename_i hz
      cases e
      cases cx
      exact .inr (.inr ⟨_, rfl, hz, k _ _ _ .refl (.str _)⟩)
    · cases e
  · cases e
end
end Z

set_option Elab.async false
set_option linter.all false
set_option maxRecDepth 100000
set_option maxHeartbeats 4000000
namespace Z
open PySem PySem.Spec PyProof.Rows L2
/-! # repr of data with dicts -/
theorem pyrk_fst : ∀ es : List (Key × D), (pyrk es).map (·.1) = (es.map (·.1)).map keyP
  | [] => by rw [pyrk]; rfl
  | (k, d) :: r => by rw [pyrk, pyrp, List.map_cons, List.map_cons, List.map_cons, pyrk_fst r]
theorem pyrk_snd : ∀ es : List (Key × D), (pyrk es).map (·.2) = pyrs (es.map (·.2))
  | [] => by rw [pyrk]; simp [pyrs]
  | (k, d) :: r => by rw [pyrk, pyrp, List.map_cons, List.map_cons, pyrs, pyrk_snd r]
theorem shwk_snd : ∀ es : List (Key × D), shwk es = shws (es.map (·.2))
  | [] => by rw [shwk]; simp [shws]
  | (k, d) :: r => by rw [shwk, shwp, List.map_cons, shws, shwk_snd r]
theorem keyP_noDict : ∀ ks : List Key, PyData.hasDictAll (ks.map keyP) = false
  | [] => by simp [PyData.hasDictAll]
  | .inl i :: r => by simp [PyData.hasDictAll, keyP, PyData.hasDict, keyP_noDict r]
  | .inr x :: r => by simp [PyData.hasDictAll, keyP, PyData.hasDict, keyP_noDict r]
section
variable {P : Program} {w : World} {h : Heap}
theorem pairs_keys {knd : KeyKind P w Key} (hk : knd = mixKind P w) : ∀ {es : List DictEntry} {vs : List (Key × Value)}, Pairs knd es vs → ReadsAll h (es.map (·.key)) ((vs.map (·.1)).map keyP) [] := by
  intro es vs r
  subst hk
  induction r with
  | nil => exact .nil
  | @cons e kv es kvs h1 h2 _ ih =>
    have h1 : keyIs kv.1 e.key = true := h1
    rcases keyIs_shape h1 with ⟨i, t, e1, e2⟩ | ⟨x, t, e1, e2⟩
    · rw [List.map_cons, List.map_cons, List.map_cons, e1, e2]
      exact .cons (as := []) (bs := []) (.int i t) ih
    · rw [List.map_cons, List.map_cons, List.map_cons, e1, e2]
      exact .cons (as := []) (bs := []) (.str x t) ih
theorem pairs_vals {knd : KeyKind P w Key} : ∀ {es : List DictEntry} {vs : List (Key × Value)}, Pairs knd es vs → es.map (·.val) = vs.map (·.2) := by
  intro es vs r
  induction r with
  | nil => rfl
  | cons h1 h2 _ ih => rw [List.map_cons, List.map_cons, h2, ih]
end
section
variable {p : Pg} {X : Cx} {pins : List (Addr × Obj)} {σ : L2.St} {H F : Hp} {ι : List Addr} {s : Shared}
def Shown (P : Program) (w : World) (h : Heap) (u : Value) (d : PyData) : Prop := ∃ as bs, Reads h u d as ∧ ReadAtMost h d.depth bs ∧ ReprK P w bs h d.depth u d.shown
def ShownAll (P : Program) (w : World) (h : Heap) (us : List Value) (ds : List PyData) : Prop := ∃ as bs, ReadsAll h us ds as ∧ ReadAtMost h (PyData.depthAll ds) bs ∧ ReprAllK P w bs h (PyData.depthAll ds) us (PyData.shownAll ds)
theorem shown_lst {P : Program} {w : World} {h : Heap} {a : Addr} {its : List Value} {ds : List PyData} {o : Obj} {n : Nat} (h1 : h.get? a = some o) (h2 : o.cls = .type "list") (h3 : o.data = .seq its.toArray n) (r : ShownAll P w h its ds) : Shown P w h (.ref a) (.list ds) := by
  obtain ⟨as, bs, r1, hb, hk⟩ := r
  have r : Reads h (.ref a) (.list ds) _ := .list h1 h2 h3 r1
  have hna : a ∉ bs := not_mem_of_deeper r (by simp only [PyData.depth]; omega) hb
  refine ⟨_, a :: bs, r, ReadAtMost.cons r (by simp only [PyData.depth]; omega) hb, ?_⟩
  simp only [PyData.depth, PyData.shown]
  cases its with
  | nil =>
    have h4' : ReadsAll h [] ds _ := r1
    cases h4'
    simp only [PyData.shownAll, listText_nil]
    exact ReprK.listEmpty h1 h2 h3
  | cons x l => exact ReprK.list h1 h2 h3 hna (by simpa using hk.length_eq) (fun i y e => hk.item i y (by simpa using e))
theorem shown_tup {P : Program} {w : World} {h : Heap} {a : Addr} {its : List Value} {ds : List PyData} {o : Obj} {n : Nat} (h1 : h.get? a = some o) (h2 : o.cls = .type "tuple") (h3 : o.data = .seq its.toArray n) (r : ShownAll P w h its ds) : Shown P w h (.ref a) (.tuple ds) := by
  obtain ⟨as, bs, r1, hb, hk⟩ := r
  have r : Reads h (.ref a) (.tuple ds) _ := .tuple h1 h2 h3 r1
  have hna : a ∉ bs := not_mem_of_deeper r (by simp only [PyData.depth]; omega) hb
  refine ⟨_, a :: bs, r, ReadAtMost.cons r (by simp only [PyData.depth]; omega) hb, ?_⟩
  simp only [PyData.depth, PyData.shown]
  exact ReprK.tuple h1 h2 h3 hna hk
theorem shown_dic {P : Program} {w : World} {h : Heap} {a : Addr} {vs : List (Key × Value)} {es : List (Key × D)} (hs : (a == sysModules) = false) (dd : h.DictOf (mixKind P w) a vs) (hk : vs.map (·.1) = es.map (·.1)) (sh : PyData.showableKv (pyrk es) = true)
    (hz : (dictText (PyData.shownKv (pyrk es))).length ≤ sizeLine) (r : ShownAll P w h (vs.map (·.2)) (pyrs (es.map (·.2)))) : Shown P w h (.ref a) (.dict (pyrk es)) := by
  obtain ⟨as, b2, r1, hb2, k2⟩ := r
  obtain ⟨o, en, ep, h1, h2, h3, _, h5, _⟩ := dd
  have rk : ReadsAll h (en.toList.map (·.key)) ((pyrk es).map (·.1)) [] := by rw [pyrk_fst, ← hk]; exact pairs_keys rfl h5
  have rv : ReadsAll h (en.toList.map (·.val)) ((pyrk es).map (·.2)) as := by rw [pyrk_snd, pairs_vals h5]; exact r1
  have r : Reads h (.ref a) (.dict (pyrk es)) _ := .dict h1 h2.1 h3 rk rv
  obtain ⟨hs1, hs2⟩ := PyData.showableKv_split _ sh
  obtain ⟨b1, hb1, k1⟩ := ReprAllK.of_readsAll (prog := P) (w := w) rk hs1 (fun hx => by rw [pyrk_fst, keyP_noDict] at hx; cases hx) (fun t ht => let ⟨q, hq, hl⟩ := PyData.shownKv_key_le _ t ht; Nat.le_trans hl (Nat.le_trans (dictText_mem_le hq) hz))
  have e2 : PyData.depthAll (pyrs (es.map (·.2))) ≤ PyData.depthKv (pyrk es) := by rw [← pyrk_snd]; exact PyData.depthAll_vals_le _
  have hb : ReadAtMost h (PyData.depthKv (pyrk es)) (b1 ++ b2) := (hb1.mono (PyData.depthAll_keys_le _)).append (hb2.mono e2)
  have hna : a ∉ b1 ++ b2 := not_mem_of_deeper r (by simp only [PyData.depth]; omega) hb
  refine ⟨_, a :: (b1 ++ b2), r, ReadAtMost.cons r (by simp only [PyData.depth]; omega) hb, ?_⟩
  simp only [PyData.depth, PyData.shown, PyData.shownKv_eq]
  rw [← pairs_vals h5, ← pyrk_snd] at k2
  exact ReprK.dict h1 h2.1 h3 hs hna (ReprEntriesK.of_two en.toList _ _
    (k1.more_le (fun b hb => List.mem_append_left _ hb) (PyData.depthAll_keys_le _)) (k2.more_le (fun b hb => List.mem_append_right _ hb) (PyData.depthAll_vals_le _)))
theorem shown_nil {P : Program} {w : World} {h : Heap} : ShownAll P w h [] [] := ⟨[], [], .nil, (fun _ h => nomatch h), by simp only [PyData.shownAll]; exact .nil⟩
theorem shown_cons {P : Program} {w : World} {h : Heap} {u : Value} {us : List Value} {d : PyData} {ds : List PyData} (a : Shown P w h u d) (b : ShownAll P w h us ds) : ShownAll P w h (u :: us) (d :: ds) := by
  obtain ⟨a1, b1, r1, hb1, k1⟩ := a
  obtain ⟨a2, b2, r2, hb2, k2⟩ := b
  refine ⟨a1 ++ a2, b1 ++ b2, .cons r1 r2, ?_, ?_⟩
  · simp only [PyData.depthAll]
    exact (hb1.mono (Nat.le_max_left _ _)).append (hb2.mono (Nat.le_max_right _ _))
  · simp only [PyData.depthAll, PyData.shownAll]
    exact .cons ((k1.more fun b hb => List.mem_append_left _ hb).level_le (Nat.le_max_left _ _)) (k2.more_le (fun b hb => List.mem_append_right _ hb) (Nat.le_max_right _ _))
theorem shown_flat {P : Program} {w : World} {h : Heap} {u : Value} {d : PyData} (r : Reads h u d []) (hs : d.showable = true) (hd : d.hasDict = false) (hz : d.shown.length ≤ sizeLine) : Shown P w h u d := by
  obtain ⟨bs, h1, h2⟩ := ReprK.of_reads (prog := P) (w := w) r hs (fun z => by rw [hd] at z; cases z) hz
  exact ⟨_, bs, r, h1, h2⟩
theorem kv_vals {kvs : List (Key × V)} {vs : List (Key × Value)} (r : KV kvs vs) : Vals (kvs.map (·.2)) (vs.map (·.2)) := by
  unfold KV at r
  induction r with
  | nil => exact .nil
  | cons h _ ih => exact .cons h.2 ih
mutual
theorem shown_rep (hK : X.K = p.K) (S : ∀ a o, F a = some o → SubH H a o) (I : Inv X pins σ H s) : ∀ {d : D} {v : V} {u : Value}, Rep p.K F ι v d → RelV v u → d.shw = true → d.pyr.showable = true → d.pyr.shown.length ≤ sizeLine → Shown X.prog X.w s.heap u d.pyr
  | _, _, _, .non, r, _, hs, hz => by
    cases r; rw [D.pyr] at hs hz ⊢; exact shown_flat .none hs rfl hz
  | _, _, _, .bl b, r, _, hs, hz => by
    cases r; rw [D.pyr] at hs hz ⊢; exact shown_flat (.bool b) hs rfl hz
  | _, _, _, .int i, r, _, hs, hz => by
    obtain ⟨t, rfl⟩ := r; rw [D.pyr] at hs hz ⊢; exact shown_flat (.int i t) hs rfl hz
  | _, _, _, .str x, r, _, hs, hz => by
    obtain ⟨t, rfl⟩ := r; rw [D.pyr] at hs hz ⊢; exact shown_flat (.str x t) hs rfl hz
  | _, _, _, .lst a q, r, hw, hs, hz => by
    cases r
    rw [D.pyr] at hs hz ⊢
    rw [D.shw] at hw
    obtain ⟨its, rv, ⟨o, n, ho, hc, _, hd⟩, _⟩ := I.list (show SqL X.K H _ _ by rw [hK]; exact .of (S _ _ a).lst)
    rw [PyData.showable] at hs
    rw [PyData.shown] at hz
    exact shown_lst ho hc hd (shown_reps hK S I q rv hw hs fun t ht => Nat.le_trans (listText_mem_le ht) hz)
  | _, _, _, .tup a q, r, hw, hs, hz => by
    cases r
    rw [D.pyr] at hs hz ⊢
    rw [D.shw] at hw
    obtain ⟨its, rv, ⟨o, ho, hc, n, hd⟩, _⟩ := I.tuple (show SqT X.K H _ _ by rw [hK]; exact (S _ _ a).tup.sq)
    rw [PyData.showable] at hs
    rw [PyData.shown] at hz
    exact shown_tup ho hc hd (shown_reps hK S I q rv hw hs fun t ht => Nat.le_trans (tupleText_mem_le ht) hz)
  | _, _, _, .dK (es := es) a e q, r, hw, hs, hz => by
    cases r
    rw [D.pyr] at hs hz ⊢
    rw [D.shw, shwk_snd] at hw
    obtain ⟨z, lo, vs, rel, dd⟩ := dk_rd I.hok (S _ _ a).rd
    rw [PyData.showable] at hs
    rw [PyData.shown] at hz
    have rv : Vals _ (vs.map (·.2)) := kv_vals rel
    refine shown_dic lo dd (by rw [← rel.keys]; exact e) hs hz (shown_reps hK S I q rv hw ?_ fun t ht => ?_)
    · rw [← pyrk_snd]; exact (PyData.showableKv_split _ hs).2
    · rw [← pyrk_snd] at ht
      obtain ⟨q, hq, hl⟩ := PyData.shownKv_val_le _ t ht
      exact Nat.le_trans hl (Nat.le_trans (dictText_mem_le hq) hz)
  | _, _, _, .dT _ _ _, _, hw, _, _ => by rw [D.shw] at hw; cases hw
  | _, _, _, .ref _, _, hw, _, _ => by rw [D.shw] at hw; cases hw
  | _, _, _, .ctup a q, r, hw, hs, hz => by
    cases r
    rw [D.pyr] at hs hz ⊢
    rw [D.shw] at hw
    obtain ⟨its, rv, ⟨o, ho, hc, n, hd⟩, _⟩ := I.tuple (show SqT X.K H _ _ by rw [hK]; exact .inl (rd_sub S a))
    rw [PyData.showable] at hs
    rw [PyData.shown] at hz
    exact shown_tup ho hc hd (shown_reps hK S I q rv hw hs fun t ht => Nat.le_trans (tupleText_mem_le ht) hz)
theorem shown_reps (hK : X.K = p.K) (S : ∀ a o, F a = some o → SubH H a o) (I : Inv X pins σ H s) : ∀ {ds : List D} {vs : List V} {us : List Value}, Reps p.K F ι vs ds → Vals vs us → shws ds = true → PyData.showableAll (pyrs ds) = true → (∀ t ∈ PyData.shownAll (pyrs ds), t.length ≤ sizeLine) → ShownAll X.prog X.w s.heap us (pyrs ds)
  | _, _, _, .nil, r, _, _, _ => by cases r; rw [pyrs]; exact shown_nil
  | _, _, _, .cons a q, r, hw, hs, hz => by
    cases r with
    | cons r1 r2 =>
    rw [pyrs] at hs hz ⊢
    rw [shws, Bool.and_eq_true] at hw
    rw [PyData.showableAll, Bool.and_eq_true] at hs
    exact shown_cons (shown_rep hK S I a r1 hw.1 hs.1 (hz _ (by simp only [PyData.shownAll]; exact List.mem_cons_self ..))) (shown_reps hK S I q r2 hw.2 hs.2 fun t ht => hz t (by simp only [PyData.shownAll]; exact List.mem_cons_of_mem _ ht))
end
end
end Z

set_option Elab.async false
set_option linter.all false
set_option maxRecDepth 100000
set_option maxHeartbeats 4000000
namespace Z
open PySem PySem.Spec PyProof.Rows L2

/-! # max and min of two things -/
section
variable {prog : Program} {w : World} {A : Around} {E : Value → Shared → Prop} {s : Shared} {a b : Value} {da db : PyData} {as bs : List Addr} {Q : Value → Shared → Prop}
theorem two_reads (ra : Reads s.heap a da as) (rb : Reads s.heap b db bs) (o : Obj) : ∃ cs, ReadsAll (s.heap.push o) (#[a, b] : Array Value).toList [da, db] cs :=
  ⟨_, .cons (Reads.keeps (fun _ _ q => Heap.get?_push_of_some _ q) ra) (.cons (Reads.keeps (fun _ _ q => Heap.get?_push_of_some _ q) rb) .nil)⟩
theorem max_pair (hh : A.handled = none) (ra : Reads s.heap a da as) (rb : Reads s.heap b db bs) (ha : PySem.W.AlikeAll [da, db]) (hu : A.units + 1 + PyData.depthAll [da, db] < cLine)
    (h : ∀ h' tk, (∀ c o, s.heap.get? c = some o → h'.get? c = some o) → Q (if PySem.W.dataLt da db then b else a) { s with heap := h', toks := tk }) : wpAny (model prog w) A (call (.builtin "max") [a, b]) Q E s := by
  obtain ⟨cs, hr⟩ := two_reads ra rb { cls := .type "tuple", data := .seq #[a, b] }
  have hT : (s.heap.push { cls := .type "tuple", data := .seq #[a, b] }).IsTuple s.heap.objs.size #[a, b] := ⟨_, Heap.get?_push_size _ rfl, rfl, 0, rfl⟩
  refine call_function_tree F.kind_max F.plain_max F.entry_max (F.args_max2 a b) (wpAny_bind (wpAny_of_eq (show Builtin.Builtins.bindParams "max" ["key", "default"] 0 ⟨[], []⟩ = pure [none, none] from rfl) ?_))
  refine wpAny_bind (wpAny_newObj_type (wpAny_bind (wpAny_mono (Q := fun it s₂ => _) (PySem.W.iter_tupleW (A := A.in1) hh hT fun s₂ e W st hfp hw hk => ?_) (fun it s₂ q => q) fun _ _ q => q)))
  have hn : (toString "max" ++ toString ".loop" : String) = "max.loop" := by decide
  refine wpAny_bind (wpAny_newObj_type ?_)
  rw [hn]
  have hS : s₂.heap.objs.size ∉ [(s.heap.push { cls := .type "tuple", data := .seq #[a, b] }).objs.size, s.heap.objs.size] := fun hm => absurd (hfp _ hm) (Nat.lt_irrefl _)
  have cmp := PySem.W.cmpIn_gt (prog := prog) (w := w) (A := A.in1) (s := { s with heap := s.heap.push { cls := .type "tuple", data := .seq #[a, b] } }) hr ha hu
  refine wpAny_pure ⟨plainId_quiet F.plain_max_loop _, codeAny_max_loop_firstH W _ hw _ cmp s₂.heap.objs.size hS (fresh_in hk) _ (Nat.zero_lt_succ 1) (fun c o q => Heap.get?_push_of_some _ (hk c o q)) (W.frame 0 s₂ _ s₂.toks st (Nat.le_refl _) fun c _ o q => Heap.get?_push_of_some _ q) (Heap.get?_push_size _ rfl) fun v s' hP hm => ?_⟩
  obtain ⟨h', tk, rfl, hk'⟩ := PySem.W.moved_old e rfl (Moved.drop_new (tk := s₂.toks) hm (Nat.le_refl _))
  have old : ∀ c o, s.heap.get? c = some o → h'.get? c = some o := fun c o q => hk' c o (Heap.get?_push_of_some _ q)
  have hv : v = if PySem.W.dataLt da db then b else a := by
    have hP : (#[a, b] : Array Value)[argBest (fun i j => PySem.W.dataLt (([da, db] : List PyData).getD j .none) (([da, db] : List PyData).getD i .none)) 1]? = some v := hP
    by_cases q : PySem.W.dataLt da db = true
    · have e1 : argBest (fun i j => PySem.W.dataLt (([da, db] : List PyData).getD j .none) (([da, db] : List PyData).getD i .none)) 1 = 1 := by simp [argBest, q]
      rw [e1] at hP; rw [if_pos q]; simpa using hP.symm
    · have e1 : argBest (fun i j => PySem.W.dataLt (([da, db] : List PyData).getD j .none) (([da, db] : List PyData).getD i .none)) 1 = 0 := by simp [argBest, q]
      rw [e1] at hP; rw [if_neg q]; simpa using hP.symm
  rw [hv]
  exact h h' tk old
theorem min_pair (hh : A.handled = none) (ra : Reads s.heap a da as) (rb : Reads s.heap b db bs) (ha : PySem.W.AlikeAll [da, db]) (hu : A.units + 1 + PyData.depthAll [da, db] < cLine)
    (h : ∀ h' tk, (∀ c o, s.heap.get? c = some o → h'.get? c = some o) → Q (if PySem.W.dataLt db da then b else a) { s with heap := h', toks := tk }) : wpAny (model prog w) A (call (.builtin "min") [a, b]) Q E s := by
  obtain ⟨cs, hr⟩ := two_reads ra rb { cls := .type "tuple", data := .seq #[a, b] }
  have hT : (s.heap.push { cls := .type "tuple", data := .seq #[a, b] }).IsTuple s.heap.objs.size #[a, b] := ⟨_, Heap.get?_push_size _ rfl, rfl, 0, rfl⟩
  refine call_function_tree F.kind_min F.plain_min F.entry_min (F.args_min2 a b) (wpAny_bind (wpAny_of_eq (show Builtin.Builtins.bindParams "min" ["key", "default"] 0 ⟨[], []⟩ = pure [none, none] from rfl) ?_))
  refine wpAny_bind (wpAny_newObj_type (wpAny_bind (wpAny_mono (Q := fun it s₂ => _) (PySem.W.iter_tupleW (A := A.in1) hh hT fun s₂ e W st hfp hw hk => ?_) (fun it s₂ q => q) fun _ _ q => q)))
  have hn : (toString "min" ++ toString ".loop" : String) = "min.loop" := by decide
  refine wpAny_bind (wpAny_newObj_type ?_)
  rw [hn]
  have hS : s₂.heap.objs.size ∉ [(s.heap.push { cls := .type "tuple", data := .seq #[a, b] }).objs.size, s.heap.objs.size] := fun hm => absurd (hfp _ hm) (Nat.lt_irrefl _)
  have cmp := PySem.W.cmpIn_lt (prog := prog) (w := w) (A := A.in1) (s := { s with heap := s.heap.push { cls := .type "tuple", data := .seq #[a, b] } }) hr ha hu
  refine wpAny_pure ⟨plainId_quiet F.plain_min_loop _, codeAny_min_loop_firstH W _ hw _ cmp s₂.heap.objs.size hS (fresh_in hk) _ (Nat.zero_lt_succ 1) (fun c o q => Heap.get?_push_of_some _ (hk c o q)) (W.frame 0 s₂ _ s₂.toks st (Nat.le_refl _) fun c _ o q => Heap.get?_push_of_some _ q) (Heap.get?_push_size _ rfl) fun v s' hP hm => ?_⟩
  obtain ⟨h', tk, rfl, hk'⟩ := PySem.W.moved_old e rfl (Moved.drop_new (tk := s₂.toks) hm (Nat.le_refl _))
  have old : ∀ c o, s.heap.get? c = some o → h'.get? c = some o := fun c o q => hk' c o (Heap.get?_push_of_some _ q)
  have hv : v = if PySem.W.dataLt db da then b else a := by
    have hP : (#[a, b] : Array Value)[argBest (fun i j => PySem.W.dataLt (([da, db] : List PyData).getD i .none) (([da, db] : List PyData).getD j .none)) 1]? = some v := hP
    by_cases q : PySem.W.dataLt db da = true
    · have e1 : argBest (fun i j => PySem.W.dataLt (([da, db] : List PyData).getD i .none) (([da, db] : List PyData).getD j .none)) 1 = 1 := by simp [argBest, q]
      rw [e1] at hP; rw [if_pos q]; simpa using hP.symm
    · have e1 : argBest (fun i j => PySem.W.dataLt (([da, db] : List PyData).getD i .none) (([da, db] : List PyData).getD j .none)) 1 = 0 := by simp [argBest, q]
      rw [e1] at hP; rw [if_neg q]; simpa using hP.symm
  rw [hv]
  exact h h' tk old
end

/-! # calls of built-in functions -/
def Bi.fn : Bi → Value
  | .abs => .builtin "abs" | .len => .builtin "len" | .max => .builtin "max" | .min => .builtin "min" | .sorted => .builtin "sorted"
  | .list => .type "list" | .tuple => .type "tuple" | .dict => .type "dict" | .str => .type "str" | .int => .type "int" | .ord => .builtin "ord" | .repr => .builtin "repr"
  | .sum => .builtin "sum" | .any => .builtin "any" | .all => .builtin "all" | .bool => .type "bool" | .setLen => .none
def Bi.name : Bi → Str
  | .abs => "abs" | .len => "len" | .max => "max" | .min => "min" | .sorted => "sorted"
  | .list => "list" | .tuple => "tuple" | .dict => "dict" | .str => "str" | .int => "int" | .ord => "ord" | .repr => "repr"
  | .sum => "sum" | .any => "any" | .all => "all" | .bool => "bool" | .setLen => "?"
abbrev CVs (p : Pg) (F : Hp) (ι : List Addr) (H : Hp) : List V → List D → Prop := Paired (CV p F ι H)
def wC (X : Cx) (f : Value) : List V → Hp → VK → Prop := fun vs H Q => ∀ pins s σ us, Inv X pins σ H s → Vals vs us → wpAny (model X.prog X.w) X.A (call f us) (EP X pins σ Q) X.xe s
theorem wC_ok {X : Cx} {f : Value} : CallR X f (wC X f) := fun pins s σ _ vs us _ I r h => h pins s σ us I r
theorem wC_of {X : Cx} {f : Value} {r : List V → Hp → VK → Prop} (h : CallR X f r) {vs : List V} {H : Hp} {Q : VK} (q : r vs H Q) : wC X f vs H Q := fun pins s σ us I rv => h pins s σ H vs us Q I rv q
section
variable {p : Pg} {X : Cx} {F H : Hp} {ι : List Addr} {d : D}
theorem CVs.one {vs : List V} {e : D} (r : CVs p F ι H vs [e]) : ∃ v, vs = [v] ∧ CV p F ι H v e := by
  cases r with
  | cons a b => cases b; exact ⟨_, rfl, a⟩
theorem CVs.two {vs : List V} {e f : D} (r : CVs p F ι H vs [e, f]) : ∃ v w, vs = [v, w] ∧ CV p F ι H v e ∧ CV p F ι H w f := by
  cases r with
  | cons a b => cases b with
    | cons b c => cases c; exact ⟨_, _, rfl, a, b⟩
theorem alikeAll_of {ds : List D} (h : okAll ds = true) : PySem.W.AlikeAll (pys ds) ∧ plains ds = true ∧ PyData.depthAll (pys ds) ≤ 60 := by
  unfold okAll fits at h
  simp only [Bool.and_eq_true, List.all_eq_true, Bool.not_eq_true'] at h
  obtain ⟨h1, h2, h3⟩ := h
  have hp : plains ds = true := by have := fit_plain h1; rwa [D.plain] at this
  refine ⟨⟨fun x hx y hy => ?_, fun x hx => ?_⟩, hp, ?_⟩
  · rw [pys_map] at hx hy
    obtain ⟨a, ha, rfl⟩ := List.mem_map.mp hx
    obtain ⟨b, hb, rfl⟩ := List.mem_map.mp hy
    exact h2 a ha b hb
  · rw [pys_map] at hx
    obtain ⟨a, ha, rfl⟩ := List.mem_map.mp hx
    exact isNon_py (h3 a ha) (plains_mem hp a ha)
  · have := dep_fit h1
    rw [D.py, PyData.depth] at this
    omega
theorem plain_maxD : ∀ (xs : List D) (x : D), (∀ d ∈ x :: xs, d.plain = true) → (maxD x xs).plain = true ∧ (maxD x xs).py = PySem.W.maxD x.py (pys xs) ∧ maxD x xs ∈ x :: xs := by
  intro xs
  induction xs with
  | nil => intro x h; exact ⟨h x (by simp), by rw [pys]; rfl, by simp [maxD]⟩
  | cons y ys ih =>
    intro x h
    have e1 : maxD x (y :: ys) = maxD (if ltD x y then y else x) ys := rfl
    have e2 : PySem.W.maxD x.py (pys (y :: ys)) = PySem.W.maxD (if ltD x y then y else x).py (pys ys) := by
      rw [pys]
      show PySem.W.maxD (if PySem.W.dataLt x.py y.py then y.py else x.py) (pys ys) = _
      have : (if ltD x y then y else x).py = if PySem.W.dataLt x.py y.py then y.py else x.py := by
        unfold ltD; split <;> rfl
      rw [this]
    rw [e1, e2]
    have h' : ∀ d ∈ (if ltD x y then y else x) :: ys, d.plain = true := by
      intro d hd
      rcases List.mem_cons.mp hd with rfl | hd
      · split
        · exact h y (by simp)
        · exact h x (by simp)
      · exact h d (by simp [hd])
    obtain ⟨q1, q2, q3⟩ := ih _ h'
    refine ⟨q1, q2, ?_⟩
    rcases List.mem_cons.mp q3 with q | q
    · rw [q]; split <;> simp
    · simp [q]
theorem plain_minD : ∀ (xs : List D) (x : D), (∀ d ∈ x :: xs, d.plain = true) → (minD x xs).plain = true ∧ (minD x xs).py = PySem.W.minD x.py (pys xs) ∧ minD x xs ∈ x :: xs := by
  intro xs
  induction xs with
  | nil => intro x h; exact ⟨h x (by simp), by rw [pys]; rfl, by simp [minD]⟩
  | cons y ys ih =>
    intro x h
    have e1 : minD x (y :: ys) = minD (if ltD y x then y else x) ys := rfl
    have e2 : PySem.W.minD x.py (pys (y :: ys)) = PySem.W.minD (if ltD y x then y else x).py (pys ys) := by
      rw [pys]
      show PySem.W.minD (if PySem.W.dataLt y.py x.py then y.py else x.py) (pys ys) = _
      have : (if ltD y x then y else x).py = if PySem.W.dataLt y.py x.py then y.py else x.py := by
        unfold ltD; split <;> rfl
      rw [this]
    rw [e1, e2]
    have h' : ∀ d ∈ (if ltD y x then y else x) :: ys, d.plain = true := by
      intro d hd
      rcases List.mem_cons.mp hd with rfl | hd
      · split
        · exact h y (by simp)
        · exact h x (by simp)
      · exact h d (by simp [hd])
    obtain ⟨q1, q2, q3⟩ := ih _ h'
    refine ⟨q1, q2, ?_⟩
    rcases List.mem_cons.mp q3 with q | q
    · rw [q]; split <;> simp
    · simp [q]
/-- an item of a list that reads as d, d alike to all: it is d -/
theorem item_is (hp : X.pg p.cls p.con = p) {pins : List (Addr × Obj)} {σ : L2.St} {s : Shared} (I : Inv X pins σ H s) (S : ∀ a o, F a = some o → SubH H a o) {ds : List D} {vs : List V} {us : List Value} (r : Reps p.K F ι vs ds) (rv : Vals vs us) (h : okAll ds = true) (nc : nocs ds = true) {m : D} (hm : m ∈ ds)
    {i : Nat} {u : Value} {h' : Heap} {bs : List Addr} (hu : us[i]? = some u) (rd : Reads h' u m.py bs) (hk : ∀ b o, s.heap.get? b = some o → h'.get? b = some o) : ∃ v, RelV v u ∧ Rep p.K F ι v m := by
  have hK : X.K = p.K := by rw [← hp]; rfl
  obtain ⟨al, pl, _⟩ := alikeAll_of h
  have hi : i < us.length := (List.getElem?_eq_some_iff.mp hu).1
  have hi2 : i < vs.length := by rw [rv.length]; exact hi
  obtain ⟨d, hd, rd2⟩ := r.of_at (List.getElem?_eq_getElem hi2)
  obtain ⟨u', hu', ru⟩ := rv.get (List.getElem?_eq_getElem hi2)
  rw [hu] at hu'; cases hu'
  have hdm : d ∈ ds := List.mem_of_getElem? hd
  obtain ⟨cs, q⟩ := Dp.reads I _ _ _ (by rw [hK]; exact dp_of S rd2 (plains_mem pl d hdm)) ru
  have q' := Reads.keeps hk q
  have e := PySem.W.alike_unique d.py m.py u cs bs (al.1 _ (by rw [pys_map]; exact List.mem_map_of_mem hdm) _ (by rw [pys_map]; exact List.mem_map_of_mem hm)) q' rd
  have e2 := py_inj d m (plains_mem pl d hdm) (plains_mem pl m hm) (nocs_mem nc d hdm) (nocs_mem nc m hm) e
  subst e2
  exact ⟨_, ru, rd2⟩
theorem blt_max (hp : X.pg p.cls p.con = p) (hc : X.calm = true) (hr : X.A.units + 64 < cLine) (S : ∀ a o, F a = some o → SubH H a o) {x : D} {xs : List D} {v : V} (cv : CV p F ι H v (.lst (x :: xs))) (ok : okAll (x :: xs) = true) (nc : nocs (x :: xs) = true) {Q : VK} (k : ∀ z, Rep p.K F ι z (maxD x xs) → Q z H) : wC X (.builtin "max") [v] H Q := by
  have hK : X.K = p.K := by rw [← hp]; rfl
  obtain ⟨a, vs, rfl, q1, q2⟩ := cv
  intro pins s σ us I rv
  rw [Vals.ref1 rv]
  obtain ⟨its, rv2, pl, hz⟩ := I.list (by rw [hK]; exact q1)
  obtain ⟨al, pn, dp⟩ := alikeAll_of ok
  obtain ⟨as, ra⟩ := Dp.readsAll I _ _ its (by rw [hK]; exact dps_of S q2 pn) rv2
  rw [pys] at ra al dp
  obtain ⟨m1, m2, m3⟩ := plain_maxD xs x fun d hd => plains_mem pn d hd
  refine PySem.W.max_list_data (vs := its.toArray) (I.ok.hd hc) pl.isList (by simpa using ra) al (by omega) fun i w h' tk bs hw rd hk => ?_
  rw [← m2] at rd
  obtain ⟨z, z1, z2⟩ := item_is hp I S q2 rv2 ok nc m3 (by simpa using hw) rd hk
  exact ⟨z, H, I.kept hk, z1, k z z2⟩
theorem blt_min (hp : X.pg p.cls p.con = p) (hc : X.calm = true) (hr : X.A.units + 64 < cLine) (S : ∀ a o, F a = some o → SubH H a o) {x : D} {xs : List D} {v : V} (cv : CV p F ι H v (.lst (x :: xs))) (ok : okAll (x :: xs) = true) (nc : nocs (x :: xs) = true) {Q : VK} (k : ∀ z, Rep p.K F ι z (minD x xs) → Q z H) : wC X (.builtin "min") [v] H Q := by
  have hK : X.K = p.K := by rw [← hp]; rfl
  obtain ⟨a, vs, rfl, q1, q2⟩ := cv
  intro pins s σ us I rv
  rw [Vals.ref1 rv]
  obtain ⟨its, rv2, pl, hz⟩ := I.list (by rw [hK]; exact q1)
  obtain ⟨al, pn, dp⟩ := alikeAll_of ok
  obtain ⟨as, ra⟩ := Dp.readsAll I _ _ its (by rw [hK]; exact dps_of S q2 pn) rv2
  rw [pys] at ra al dp
  obtain ⟨m1, m2, m3⟩ := plain_minD xs x fun d hd => plains_mem pn d hd
  refine PySem.W.min_list_data (vs := its.toArray) (I.ok.hd hc) pl.isList (by simpa using ra) al (by omega) fun i w h' tk bs hw rd hk => ?_
  rw [← m2] at rd
  obtain ⟨z, z1, z2⟩ := item_is hp I S q2 rv2 ok nc m3 (by simpa using hw) rd hk
  exact ⟨z, H, I.kept hk, z1, k z z2⟩
theorem two_data (hp : X.pg p.cls p.con = p) {pins : List (Addr × Obj)} {σ : L2.St} {s : Shared} (I : Inv X pins σ H s) (S : ∀ a o, F a = some o → SubH H a o) {a b : D} {v w : V} {u u' : Value} (ok : okAll [a, b] = true) (ca : CV p F ι H v a) (cb : CV p F ι H w b) (ru : RelV v u) (ru' : RelV w u') :
    ∃ as bs, Reads s.heap u a.py as ∧ Reads s.heap u' b.py bs ∧ PySem.W.AlikeAll [a.py, b.py] ∧ PyData.depthAll [a.py, b.py] ≤ 60 := by
  have hK : X.K = p.K := by rw [← hp]; rfl
  obtain ⟨al, pn, dp⟩ := alikeAll_of ok
  rw [pys_map] at al dp
  obtain ⟨as, r1⟩ := Dp.reads I _ _ _ (by rw [hK]; exact ca.dp S (plains_mem pn a (by simp))) ru
  obtain ⟨bs, r2⟩ := Dp.reads I _ _ _ (by rw [hK]; exact cb.dp S (plains_mem pn b (by simp))) ru'
  exact ⟨as, bs, r1, r2, al, dp⟩
theorem blt_max2 (hp : X.pg p.cls p.con = p) (hc : X.calm = true) (hr : X.A.units + 64 < cLine) (S : ∀ a o, F a = some o → SubH H a o) {a b : D} {v w : V} (ca : CV p F ι H v a) (cb : CV p F ι H w b) (ra : Rep p.K F ι v a) (rb : Rep p.K F ι w b) (ok : okAll [a, b] = true) {Q : VK} (k : ∀ z, Rep p.K F ι z (maxD a [b]) → Q z H) : wC X (.builtin "max") [v, w] H Q := by
  intro pins s σ us I rv
  obtain ⟨u, u', rfl, ru, ru'⟩ := vals2 rv
  obtain ⟨as, bs, r1, r2, al, dp⟩ := two_data hp I S ok ca cb ru ru'
  refine max_pair (I.ok.hd hc) r1 r2 al (by omega) fun h' tk hk => ?_
  have e : maxD a [b] = if PySem.W.dataLt a.py b.py then b else a := rfl
  rw [e] at k
  by_cases q : PySem.W.dataLt a.py b.py = true
  · rw [if_pos q] at k ⊢; exact ⟨w, H, I.kept hk, ru', k w rb⟩
  · rw [if_neg q] at k ⊢; exact ⟨v, H, I.kept hk, ru, k v ra⟩
theorem blt_min2 (hp : X.pg p.cls p.con = p) (hc : X.calm = true) (hr : X.A.units + 64 < cLine) (S : ∀ a o, F a = some o → SubH H a o) {a b : D} {v w : V} (ca : CV p F ι H v a) (cb : CV p F ι H w b) (ra : Rep p.K F ι v a) (rb : Rep p.K F ι w b) (ok : okAll [a, b] = true) {Q : VK} (k : ∀ z, Rep p.K F ι z (minD a [b]) → Q z H) : wC X (.builtin "min") [v, w] H Q := by
  intro pins s σ us I rv
  obtain ⟨u, u', rfl, ru, ru'⟩ := vals2 rv
  obtain ⟨as, bs, r1, r2, al, dp⟩ := two_data hp I S ok ca cb ru ru'
  refine min_pair (I.ok.hd hc) r1 r2 al (by omega) fun h' tk hk => ?_
  have e : minD a [b] = if PySem.W.dataLt b.py a.py then b else a := rfl
  rw [e] at k
  by_cases q : PySem.W.dataLt b.py a.py = true
  · rw [if_pos q] at k ⊢; exact ⟨w, H, I.kept hk, ru', k w rb⟩
  · rw [if_neg q] at k ⊢; exact ⟨v, H, I.kept hk, ru, k v ra⟩

theorem EachR : ∀ {vs : List V} {ds : List D} {us : List Value}, Reps p.K F ι vs ds → Vals vs us → PySem.W.EachIs (fun u (b : V × D) => RelV b.1 u) us (vs.zip ds)
  | _, _, _, .nil, .nil => .nil
  | _, _, _, .cons _ r, .cons q t => .cons q (EachR r t)
theorem EachD {h : Heap} : ∀ {vs : List V} {ds : List D} {us : List Value} {as : List Addr}, vs.length = ds.length → ReadsAll h us (pys ds) as → PySem.W.EachIs (fun u (b : V × D) => ∃ as, Reads h u b.2.py as) us (vs.zip ds)
  | [], [], _, _, _, r => by rw [pys] at r; cases r; exact .nil
  | [], _ :: _, _, _, e, _ => by simp at e
  | _ :: _, [], _, _, e, _ => by simp at e
  | v :: vs, d :: ds, _, _, e, r => by
    rw [pys] at r
    cases r with
    | cons a b => exact .cons ⟨_, a⟩ (EachD (by simpa using e) b)
theorem zip_snd {vs : List V} {ds : List D} (e : vs.length = ds.length) : (vs.zip ds).map (·.2) = ds := by
  rw [List.map_snd_zip]; omega
theorem reps_zip : ∀ {vs : List V} {ds : List D}, Reps p.K F ι vs ds → ∀ b ∈ vs.zip ds, Rep p.K F ι b.1 b.2
  | _, _, .nil, b, hb => by simp at hb
  | _, _, .cons a r, b, hb => by
    rw [List.zip_cons_cons] at hb
    rcases List.mem_cons.mp hb with rfl | hb
    · exact a
    · exact reps_zip r b hb
theorem reps_of : ∀ {bs : List (V × D)}, (∀ b ∈ bs, Rep p.K F ι b.1 b.2) → Reps p.K F ι (bs.map (·.1)) (bs.map (·.2))
  | [], _ => .nil
  | b :: bs, h => .cons (h b (by simp)) (reps_of fun c hc => h c (by simp [hc]))
theorem vals_of_each : ∀ {us : List Value} {bs : List (V × D)}, PySem.W.EachIs (fun u (b : V × D) => RelV b.1 u) us bs → Vals (bs.map (·.1)) us
  | _, _, .nil => .nil
  | _, _, .cons a r => .cons a (vals_of_each r)
theorem sortable_of {ds : List D} (h : okSort ds = true) : PySem.W.Sortable (pys ds) := by
  unfold okSort at h
  simp only [Bool.and_eq_true, Bool.or_eq_true, List.all_eq_true] at h
  obtain ⟨h1, _, h2⟩ := h
  obtain ⟨al, pn, _⟩ := alikeAll_of h1
  rw [pys_map]
  rcases h2 with h2 | h2
  · refine .inl fun x hx => ?_
    obtain ⟨a, ha, rfl⟩ := List.mem_map.mp hx
    have := h2 a ha
    split at this
    · rw [D.py, pys]; exact ⟨_, _, rfl⟩
    · rw [D.py, pys]; exact ⟨_, _, rfl⟩
    · cases this
  · refine .inr fun x hx => ?_
    obtain ⟨a, ha, rfl⟩ := List.mem_map.mp hx
    refine ⟨al.2 _ (by rw [pys_map]; exact List.mem_map_of_mem ha), fun xs e => ?_⟩
    have := h2 a ha
    have pa := plains_mem pn a ha
    cases a <;> simp_all [D.py, D.plain]
theorem blt_sorted (hp : X.pg p.cls p.con = p) (hr : X.A.units + 64 < cLine) (S : ∀ a o, F a = some o → SubH H a o) {ds : List D} {v : V} (cv : CV p F ι H v (.lst ds)) (ok : okSort ds = true) {Q : VK} (k : ∀ c ws, H c = none → Reps p.K F ι ws (sortD ds) → Q (.ref c) (upd H c (.lst ws))) : wC X (.builtin "sorted") [v] H Q := by
  have hK : X.K = p.K := by rw [← hp]; rfl
  obtain ⟨a, vs, rfl, q1, q2⟩ := cv
  intro pins s σ us I rv
  rw [Vals.ref1 rv]
  obtain ⟨its, rv2, pl, hz⟩ := I.list (by rw [hK]; exact q1)
  have okA : okAll ds = true := by unfold okSort at ok; rw [Bool.and_eq_true] at ok; exact ok.1
  obtain ⟨al, pn, dp⟩ := alikeAll_of okA
  obtain ⟨as, ra⟩ := Dp.readsAll I _ _ its (by rw [hK]; exact dps_of S q2 pn) rv2
  have hm : (vs.zip ds).map (fun b => b.2.py) = pys ds := by
    rw [pys_map, show (fun b : V × D => b.2.py) = D.py ∘ (·.2) from rfl, ← List.map_map, zip_snd q2.length]
  have hlen : (vs.zip ds).length = vs.length := by rw [List.length_zip, ← q2.length]; omega
  refine PySem.W.sorted_data (bs := vs.zip ds) (enc := fun b => b.2.py) (R := fun u b => RelV b.1 u) pl.isList (EachR q2 rv2) (EachD q2.length ra) (by rw [hm]; exact al.1) (by rw [hm]; exact sortable_of ok) (by rw [hlen]; exact hz) (fun b hb => ?_) fun out ho eo => ?_
  · have h1 : b.2 ∈ ds := by rw [← zip_snd q2.length]; exact List.mem_map_of_mem hb
    have h2 : b.2.py.depth ≤ PyData.depthAll (pys ds) := by
      rw [pys_map]
      have : ∀ l : List D, b.2 ∈ l → b.2.py.depth ≤ PyData.depthAll (l.map D.py) := by
        intro l
        induction l with
        | nil => intro h; cases h
        | cons x l ih =>
          intro h
          rw [List.map_cons, PyData.depthAll]
          rcases List.mem_cons.mp h with e | h
          · rw [e]; exact Nat.le_max_left _ _
          · exact Nat.le_trans (ih h) (Nat.le_max_right _ _)
      exact this ds h1
    omega
  · have hs : ((vs.zip ds).mergeSort (PySem.W.dataLe false fun b : V × D => b.2.py)).map (·.2) = sortD ds := by
      unfold sortD
      rw [PySem.W.sort_maps (s := leD) (f := fun b : V × D => b.2), zip_snd q2.length]
      intro x _ y _
      rw [PySem.W.dataLe_eq]
      rfl
    obtain ⟨e, he⟩ := sortedAll_at s.heap its out.toArray
    have rl : Reps p.K F ι (((vs.zip ds).mergeSort (PySem.W.dataLe false fun b : V × D => b.2.py)).map (·.1)) (sortD ds) := by
      rw [← hs]
      exact reps_of fun b hb => reps_zip q2 b ((List.mergeSort_perm _ _).mem_iff.mp hb)
    have hz2 : (((vs.zip ds).mergeSort (PySem.W.dataLe false fun b : V × D => b.2.py)).map (·.1)).length ≤ sizeLine := by
      rw [List.length_map, List.length_mergeSort, hlen]; exact hz
    refine ⟨.ref (s.heap.objs.size + 1), _, I.laid (a := s.heap.objs.size + 1) (o := .lst _) (t' := s.toks) (fun b o q => sortedAll_old q) (Nat.le_succ _) ⟨hz2, out, e, vals_of_each eo, he⟩, rfl, ?_⟩
    exact k _ _ (I.hok.fresh (Nat.le_succ _)) rl
theorem blt_repr (hp : X.pg p.cls p.con = p) (hr : X.A.units + 64 < cLine) (hg : X.A.guards = some []) (S : ∀ a o, F a = some o → SubH H a o) {v : V} (cv : CV p F ι H v d) (hf : d.fit = true) (hs : d.py.showable = true) (hz : d.py.shown.length ≤ sizeLine) {Q : VK} (k : Q (.str d.py.shown) H) : wC X (.builtin "repr") [v] H Q := by
  have hK : X.K = p.K := by rw [← hp]; rfl
  intro pins s σ us I rv
  obtain ⟨u, rfl, ru⟩ := vals1 rv
  obtain ⟨as, ra⟩ := Dp.reads I _ _ _ (by rw [hK]; exact cv.dp S (fit_plain hf)) ru
  have fin : ∀ (t : Tok) h' tk, (∀ b o, s.heap.get? b = some o → h'.get? b = some o) → EP X pins σ Q (.str d.py.shown t) { s with heap := h', toks := tk } := fun t h' tk hk => ⟨.str _, H, I.kept hk, ⟨t, rfl⟩, k⟩
  have hd := dep_fit hf
  cases d with
  | non => cases (show v = .non from cv); cases ru; rw [D.py, PyData.shown] at fin; exact PySem.P.repr_of_none (fin _ _ _ fun _ _ q => q)
  | bl b => cases (show v = .bl b from cv); cases ru; rw [D.py, PyData.shown] at fin; exact PySem.P.repr_of_bool (fin _ _ _ fun _ _ q => q)
  | int i => cases (show v = .int i from cv); obtain ⟨t, rfl⟩ := ru; rw [D.py, PyData.shown] at fin; rw [D.py, PyData.showable, decide_eq_true_eq] at hs; exact PySem.P.repr_of_int hs (fin _ _ _ fun _ _ q => q)
  | str x => cases (show v = .str x from cv); obtain ⟨t, rfl⟩ := ru; rw [D.py, PyData.shown] at fin hz; exact PySem.P.repr_of_str (fin _ _ _ fun _ _ q => q) hz
  | lst ds =>
    obtain ⟨a, vs, rfl, _⟩ := cv
    cases ru
    exact repr_of_reads' ra hs (fun h => absurd h (by rw [PyData.hasDict_of_canLay _ (lay_plain _ (fit_plain hf))]; decide)) hg (by omega) (fun _ _ q => q) (fun h' u tk hk => fin u h' tk hk) hz
  | tup ds =>
    obtain ⟨a, vs, rfl, _⟩ := cv
    cases ru
    exact repr_of_reads' ra hs (fun h => absurd h (by rw [PyData.hasDict_of_canLay _ (lay_plain _ (fit_plain hf))]; decide)) hg (by omega) (fun _ _ q => q) (fun h' u tk hk => fin u h' tk hk) hz
  | ctup ds =>
    obtain ⟨a, vs, rfl, _⟩ := cv
    cases ru
    exact repr_of_reads' ra hs (fun h => absurd h (by rw [PyData.hasDict_of_canLay _ (lay_plain _ (fit_plain hf))]; decide)) hg (by omega) (fun _ _ q => q) (fun h' u tk hk => fin u h' tk hk) hz
  | dK _ => exact absurd (fit_plain hf) (by rw [D.plain]; decide)
  | dT _ => exact absurd (fit_plain hf) (by rw [D.plain]; decide)
  | ref _ => exact absurd (fit_plain hf) (by rw [D.plain]; decide)
theorem blt_shw (hp : X.pg p.cls p.con = p) (hr : X.A.units + 64 < cLine) (hg : X.A.guards = some []) (S : ∀ a o, F a = some o → SubH H a o) {v : V} (cv : CV p F ι H v d) (ok : okShw d = true) {Q : VK} (k : Q (.str d.pyr.shown) H) : wC X (.builtin "repr") [v] H Q := by
  have hK : X.K = p.K := by rw [← hp]; rfl
  unfold okShw at ok
  simp only [Bool.and_eq_true, decide_eq_true_eq] at ok
  obtain ⟨h1, h2, h3, h4, h5⟩ := ok
  intro pins s σ us I rv
  obtain ⟨u, rfl, ru⟩ := vals1 rv
  have fin : ∀ (t : Tok) h' tk, (∀ b o, s.heap.get? b = some o → h'.get? b = some o) → EP X pins σ Q (.str d.pyr.shown t) { s with heap := h', toks := tk } := fun t h' tk hk => ⟨.str _, H, I.kept hk, ⟨t, rfl⟩, k⟩
  cases d with
  | lst ds =>
    obtain ⟨a, vs, rfl, q1, q2⟩ := cv
    cases ru
    rw [D.pyr] at h3 h4 h5 fin
    rw [D.shw] at h2
    rw [PyData.showable] at h4
    rw [PyData.shown] at h5 fin
    rw [PyData.depth] at h3
    obtain ⟨its, rv, ⟨o, n, ho, hc, _, hd⟩, _⟩ := I.list (show SqL X.K H _ _ by rw [hK]; exact q1)
    obtain ⟨as, bs, r1, hb, hk⟩ := shown_reps hK S I q2 rv h2 h4 fun t ht => Nat.le_trans (listText_mem_le ht) h5
    have hna : a ∉ bs := not_mem_of_deeper (.list ho hc hd r1) (by simp only [PyData.depth]; omega) hb
    refine call_repr_slot (by omega) ⟨o, ho, hc⟩ PySem.F.slot_list_repr.toG ?_
    cases its with
    | nil =>
      have h4' : ReadsAll s.heap [] (pyrs ds) _ := r1
      cases h : pyrs ds with
      | cons _ _ => rw [h] at h4'; cases h4'
      | nil =>
        rw [h] at fin
        simp only [PyData.shownAll, listText_nil] at fin
        exact call_list_repr_empty ⟨o, ho, hc⟩ ho hd ⟨_, _, rfl, fin _ _ _ fun _ _ e => e⟩
    | cons x l =>
      exact call_list_reprK ho hc hd hna (by simpa using hk.length_eq) (fun i y e => hk.item i y (by simpa using e)) hg (fun b _ => Clear.nil b) (by show X.A.units + 1 + _ < cLine; omega) (fun _ _ e => e) (fun h' u tk hk => ⟨_, _, rfl, fin u h' tk hk⟩) h5
  | tup ds =>
    obtain ⟨a, vs, rfl, q1, q2⟩ := cv
    cases ru
    rw [D.pyr] at h3 h4 h5 fin
    rw [D.shw] at h2
    rw [PyData.showable] at h4
    rw [PyData.shown] at h5 fin
    rw [PyData.depth] at h3
    obtain ⟨its, rv, ⟨o, ho, hc, n, hd⟩, _⟩ := I.tuple (show SqT X.K H _ _ by rw [hK]; exact q1.sq)
    obtain ⟨as, bs, r1, hb, hk⟩ := shown_reps hK S I q2 rv h2 h4 fun t ht => Nat.le_trans (tupleText_mem_le ht) h5
    have hna : a ∉ bs := not_mem_of_deeper (.tuple ho hc hd r1) (by simp only [PyData.depth]; omega) hb
    refine call_repr_slot (by omega) ⟨o, ho, hc⟩ PySem.F.slot_tuple_repr ?_
    exact call_tuple_reprK ho hc hd hna hk hg (fun b _ => Clear.nil b) (by show X.A.units + 1 + _ < cLine; omega) (fun _ _ e => e) (fun h' u tk hk => ⟨_, _, rfl, fin u h' tk hk⟩) h5
  | ctup ds =>
    obtain ⟨a, vs, rfl, q1, q2⟩ := cv
    cases ru
    rw [D.pyr] at h3 h4 h5 fin
    rw [D.shw] at h2
    rw [PyData.showable] at h4
    rw [PyData.shown] at h5 fin
    rw [PyData.depth] at h3
    obtain ⟨its, rv, ⟨o, ho, hc, n, hd⟩, _⟩ := I.tuple (show SqT X.K H _ _ by rw [hK]; exact .inl q1)
    obtain ⟨as, bs, r1, hb, hk⟩ := shown_reps hK S I q2 rv h2 h4 fun t ht => Nat.le_trans (tupleText_mem_le ht) h5
    have hna : a ∉ bs := not_mem_of_deeper (.tuple ho hc hd r1) (by simp only [PyData.depth]; omega) hb
    refine call_repr_slot (by omega) ⟨o, ho, hc⟩ PySem.F.slot_tuple_repr ?_
    exact call_tuple_reprK ho hc hd hna hk hg (fun b _ => Clear.nil b) (by show X.A.units + 1 + _ < cLine; omega) (fun _ _ e => e) (fun h' u tk hk => ⟨_, _, rfl, fin u h' tk hk⟩) h5
  | _ => cases h1
/-! sorted of a dict -/
theorem intKs_ok {β : Type} : ∀ {es : List (Key × β)} {ks : List Int}, intKs es = some ks → es.map (·.1) = ks.map Sum.inl
  | [], ks, h => by cases h; rfl
  | (.inl i, d) :: r, ks, h => by
    obtain ⟨ls, e1, e2⟩ := Option.map_eq_some_iff.mp (show (intKs r).map (i :: ·) = some ks from h)
    subst e2
    rw [List.map_cons, List.map_cons, intKs_ok e1]
  | (.inr x, d) :: r, ks, h => by cases h
theorem strKs_ok {β : Type} : ∀ {es : List (Key × β)} {ks : List Str}, strKs es = some ks → es.map (·.1) = ks.map Sum.inr
  | [], ks, h => by cases h; rfl
  | (.inr i, d) :: r, ks, h => by
    obtain ⟨ls, e1, e2⟩ := Option.map_eq_some_iff.mp (show (strKs r).map (i :: ·) = some ks from h)
    subst e2
    rw [List.map_cons, List.map_cons, strKs_ok e1]
  | (.inl x, d) :: r, ks, h => by cases h
theorem sortI_eq {ys ks : List Int} (h : ys.Perm ks) (s : ys.Pairwise (· ≤ ·)) : ys = sortI ks := by
  have h2 : (sortI ks).Pairwise (fun a b => decide (a ≤ b) = true) := List.pairwise_mergeSort (fun a b c h1 h2 => by simp at *; omega) (fun a b => by simp; omega) ks
  refine List.Perm.eq_of_pairwise (le := fun a b : Int => a ≤ b) (fun a b _ _ h1 h2 => Int.le_antisymm h1 h2) s (h2.imp fun h => of_decide_eq_true h) (h.trans (List.mergeSort_perm _ _).symm)
theorem risingS_pw : ∀ {p : Str} {l : List Str}, risingS p l = true → (p :: l).Pairwise (fun a b => leSt a b = true)
  | p, [], _ => by simp
  | p, x :: r, h => by
    have h : (!ltCps x.cps.toList p.cps.toList && risingS x r) = true := h
    rw [Bool.and_eq_true] at h
    have ih := risingS_pw h.2
    have h1 : leSt p x = true := by unfold leSt; rw [← PyProof.Rows.ltCps_eq]; exact h.1
    refine List.Pairwise.cons (fun y hy => ?_) ih
    rcases List.mem_cons.mp hy with rfl | hy
    · exact h1
    · have h2 := List.rel_of_pairwise_cons ih hy
      unfold leSt at h1 h2 ⊢
      simp only [Bool.not_eq_true', decide_eq_false_iff_not, List.not_lt] at h1 h2 ⊢
      exact List.le_trans h1 h2
theorem str_ext {a b : Str} (h : a.cps.toList = b.cps.toList) : a = b := by
  cases a; cases b
  simp only at h
  rw [Array.toList_inj.mp h]
theorem sortT_eq {ys ks : List Str} (h : ys.Perm ks) (s : sortedS ys = true) : ys = sortT ks := by
  have s1 : ys.Pairwise (fun a b => leSt a b = true) := by
    cases ys with
    | nil => exact .nil
    | cons x r => exact risingS_pw s
  have h2 : (sortT ks).Pairwise (fun a b => leSt a b = true) := List.pairwise_mergeSort (fun a b c h1 h2 => by
    unfold leSt at h1 h2 ⊢
    simp only [Bool.not_eq_true', decide_eq_false_iff_not, List.not_lt] at h1 h2 ⊢
    exact List.le_trans h1 h2) (fun a b => by
    unfold leSt
    by_cases c : b.cps.toList < a.cps.toList
    · have : ¬ a.cps.toList < b.cps.toList := List.lt_asymm c
      simp [c, this]
    · simp [c]) ks
  refine List.Perm.eq_of_pairwise (le := fun a b : Str => leSt a b = true) (fun a b _ _ h1 h2 => ?_) s1 h2 (h.trans (List.mergeSort_perm _ _).symm)
  unfold leSt at h1 h2
  simp only [Bool.not_eq_true', decide_eq_false_iff_not, List.not_lt] at h1 h2
  exact str_ext (List.le_antisymm h1 h2)
theorem reps_ints {K : PySem.W.Frag} : ∀ ks : List Int, Reps K F ι (ks.map V.int) (ks.map D.int)
  | [] => .nil
  | k :: ks => .cons (.int k) (reps_ints ks)
theorem reps_strs {K : PySem.W.Frag} : ∀ ks : List Str, Reps K F ι (ks.map V.str) (ks.map D.str)
  | [] => .nil
  | k :: ks => .cons (.str k) (reps_strs ks)
theorem blt_sortK (hp : X.pg p.cls p.con = p) (hc : X.calm = true) {es : List (Key × D)} {v : V} (cv : CV p F ι H v (.dK es)) (e : sortKD es = some d) {Q : VK} (k : ∀ c ws ds, d = .lst ds → H c = none → Reps p.K F ι ws ds → Q (.ref c) (upd H c (.lst ws))) : wC X (.builtin "sorted") [v] H Q := by
  obtain ⟨a, kvs, rfl, q1, q2, q3⟩ := cv
  unfold sortKD at e
  split at e
  · rename_i ks hk
    split at e
    · rename_i hz
      cases e
      refine wC_of (call_sortedDI hc) ⟨a, kvs, ks, rfl, q1, q2.trans (intKs_ok hk), hz, fun ys c h1 h2 h3 => ?_⟩
      rw [sortI_eq h1 h2]
      exact k c _ _ rfl h3 (reps_ints _)
    · cases e
  · split at e
    · rename_i ks hk
      split at e
      · rename_i hz
        cases e
        refine wC_of (call_sortedD hc) ⟨a, kvs, ks, rfl, q1, q2.trans (strKs_ok hk), hz, fun ys c h1 h2 h3 => ?_⟩
        rw [sortT_eq h1 h2]
        exact k c _ _ rfl h3 (reps_strs _)
      · cases e
    · cases e
theorem rep_of_cv {v : V} (cv : CV p F ι H v d) (h : (∃ x, d = .str x) ∨ ∃ i, d = .int i) : Rep p.K F ι v d := by
  rcases h with ⟨x, rfl⟩ | ⟨i, rfl⟩
  · cases (show v = .str x from cv); exact .str _
  · cases (show v = .int i from cv); exact .int _

def isCon : D → Bool
  | .lst _ => true | .dK _ => true | .dT _ => true
  | _ => false
/-- an operand: what is seen of it, and that it is frozen unless it is a container -/
structure CW (p : Pg) (F : Hp) (ι : List Addr) (H : Hp) (v : V) (d : D) : Prop where
  cv : CV p F ι H v d
  rep : isCon d = false → Rep p.K F ι v d
abbrev CWs (p : Pg) (F : Hp) (ι : List Addr) (H : Hp) : List V → List D → Prop := Paired (CW p F ι H)
theorem cw_of {Pr : Hp} {ρ : Env'} {S : Store} {α : Nat → Addr} {σ : L2.St} {v : V} {h : Hd} (R : Rel p Pr ρ S F ι α σ H) (r : HRep p F ι α v h) (e : cont ρ S h = some d) : CW p F ι H v d := by
  refine ⟨cv_of R r e, fun hc => ?_⟩
  cases h with
  | slot i =>
    simp only [cont] at e
    split at e
    · rename_i u hu
      cases e
      obtain ⟨_, _, _, q, _⟩ := R.own i _ hu
      cases d <;> simp_all [CRep, isCon]
    · cases e
  | val u =>
    by_cases hr : ∃ n, u = .ref n
    · obtain ⟨n, rfl⟩ := hr
      simp only [cont] at e
      split at e
      · rename_i c hc'
        cases e
        obtain ⟨b, hb, _, q⟩ := R.wd.at hc'
        have q : CRep p.K F ι H b d := q
        cases d <;> simp_all [CRep, isCon]
      · rename_i c hc'
        cases e
        obtain ⟨b, hb, _, q⟩ := R.wd.at hc'
        have q : LRep p.K F ι H b d := q
        cases d <;> simp_all [LRep, isCon]
      · cases e
    · have hd : ∀ n, u ≠ .ref n := fun n q => hr ⟨n, q⟩
      rw [cont_val hd] at e
      cases e
      exact r
theorem CWs.one {vs : List V} {e : D} (r : CWs p F ι H vs [e]) : ∃ v, vs = [v] ∧ CW p F ι H v e := by
  cases r with
  | cons a b => cases b; exact ⟨_, rfl, a⟩
theorem CWs.two {vs : List V} {e f : D} (r : CWs p F ι H vs [e, f]) : ∃ v w, vs = [v, w] ∧ CW p F ι H v e ∧ CW p F ι H w f := by
  cases r with
  | cons a b => cases b with
    | cons b c => cases c; exact ⟨_, _, rfl, a, b⟩
theorem listOf_lst (hp : X.pg p.cls p.con = p) (S : ∀ a o, F a = some o → SubH H a o) {ds : List D} {v : V} (cv : CV p F ι H v (.lst ds)) {Q : VK} (k : ∀ z F' H', Grow F H F' H' → Rep p.K F' ι z (.lst ds) → Q z H') : wC X (.type "list") [v] H Q := by
  have hK : X.K = p.K := by rw [← hp]; rfl
  obtain ⟨a, vs, rfl, q1, q2⟩ := cv
  exact wC_of call_list_of ⟨a, vs, rfl, .inl (by rw [hK]; exact q1), fun l hl => newL S q2 hl k⟩
theorem listOf_tup (hp : X.pg p.cls p.con = p) (S : ∀ a o, F a = some o → SubH H a o) {ds : List D} {v : V} (cv : CV p F ι H v (.tup ds)) {Q : VK} (k : ∀ z F' H', Grow F H F' H' → Rep p.K F' ι z (.lst ds) → Q z H') : wC X (.type "list") [v] H Q := by
  have hK : X.K = p.K := by rw [← hp]; rfl
  obtain ⟨a, vs, rfl, q1, q2⟩ := cv
  exact wC_of call_list_of ⟨a, vs, rfl, .inr (q1.sq), fun l hl => newL S q2 hl k⟩
theorem blt_ok (b : Bi) (hp : X.pg p.cls p.con = p) (hc : X.calm = true) (hr : X.A.units + 64 < cLine) (hg : X.A.guards = some []) (S : ∀ a o, F a = some o → SubH H a o) {ds : List D} {vs : List V} (r : CWs p F ι H vs ds) (e : bltD b ds = some d) {Q : VK} (k : ∀ z F' H', Grow F H F' H' → Rep p.K F' ι z d → Q z H') : wC X b.fn vs H Q := by
  have hK : X.K = p.K := by rw [← hp]; rfl
  have k0 : ∀ z, Rep p.K F ι z d → Q z H := fun z q => k z F H .refl q
  unfold bltD at e
  split at e
  · obtain ⟨v, rfl, c⟩ := r.one
    cases c.cv
    cases e
    exact wC_of call_abs ⟨_, rfl, k0 _ (.int _)⟩
  · obtain ⟨v, rfl, c⟩ := r.one
    unfold lenD at e
    split at e
    · cases e
      obtain ⟨a, ws, rfl, q1, q2⟩ := c.cv
      exact wC_of call_len_seq ⟨a, ws, rfl, .inl (by rw [hK]; exact q1), by rw [q2.length]; exact k0 _ (.int _)⟩
    · cases e
      obtain ⟨a, ws, rfl, q1, q2⟩ := c.cv
      exact wC_of call_len_seq ⟨a, ws, rfl, .inr (q1.sq), by rw [q2.length]; exact k0 _ (.int _)⟩
    · split at e
      · rename_i hz
        cases e
        cases c.cv
        exact wC_of call_len_str ⟨_, rfl, hz, k0 _ (.int _)⟩
      · cases e
    · rename_i es
      cases e
      obtain ⟨a, kvs, rfl, q1, q2, q3⟩ := c.cv
      intro pins s σ us I rv
      rw [Vals.ref1 rv]
      have hl : kvs.length = es.length := RKV.len (K := p.K) (F := F) (ι := ι) ⟨q2, q3⟩
      exact d_len I q1 fun t s' I' => ⟨.int kvs.length, H, I', ⟨t, rfl⟩, by rw [hl]; exact k0 _ (.int _)⟩
    · cases e
      obtain ⟨a, ws, rfl, q1, q2⟩ := c.cv
      exact wC_of call_len_seq ⟨a, ws, rfl, .inr (.inl q1), by rw [q2.length]; exact k0 _ (.int _)⟩
    · cases e
  · obtain ⟨v, w, rfl, c1, c2⟩ := r.two
    cases c1.cv; cases c2.cv; cases e
    exact wC_of (call_max2 hc) ⟨_, _, rfl, k0 _ (.int _)⟩
  · obtain ⟨v, w, rfl, c1, c2⟩ := r.two
    cases c1.cv; cases c2.cv; cases e
    exact wC_of (call_min2 hc) ⟨_, _, rfl, k0 _ (.int _)⟩
  · split at e
    · rename_i ok
      cases e
      obtain ⟨v, w, rfl, c1, c2⟩ := r.two
      exact blt_max2 hp hc hr S c1.cv c2.cv (c1.rep rfl) (c2.rep rfl) ok k0
    · cases e
  · split at e
    · rename_i ok
      cases e
      obtain ⟨v, w, rfl, c1, c2⟩ := r.two
      exact blt_min2 hp hc hr S c1.cv c2.cv (c1.rep rfl) (c2.rep rfl) ok k0
    · cases e
  · split at e
    · rename_i ok
      cases e
      obtain ⟨v, w, rfl, c1, c2⟩ := r.two
      exact blt_max2 hp hc hr S c1.cv c2.cv (c1.rep rfl) (c2.rep rfl) ok k0
    · cases e
  · split at e
    · rename_i ok
      cases e
      obtain ⟨v, w, rfl, c1, c2⟩ := r.two
      exact blt_max2 hp hc hr S c1.cv c2.cv (c1.rep rfl) (c2.rep rfl) ok k0
    · cases e
  · split at e
    · rename_i ok
      cases e
      obtain ⟨v, w, rfl, c1, c2⟩ := r.two
      exact blt_max2 hp hc hr S c1.cv c2.cv (c1.rep rfl) (c2.rep rfl) ok k0
    · cases e
  · split at e
    · rename_i ok
      cases e
      obtain ⟨v, w, rfl, c1, c2⟩ := r.two
      exact blt_max2 hp hc hr S c1.cv c2.cv (c1.rep rfl) (c2.rep rfl) ok k0
    · cases e
  · split at e
    · rename_i ok
      cases e
      obtain ⟨v, w, rfl, c1, c2⟩ := r.two
      exact blt_min2 hp hc hr S c1.cv c2.cv (c1.rep rfl) (c2.rep rfl) ok k0
    · cases e
  · split at e
    · rename_i ok
      cases e
      rw [Bool.and_eq_true] at ok
      obtain ⟨v, rfl, c⟩ := r.one
      exact blt_max hp hc hr S c.cv ok.1 ok.2 k0
    · cases e
  · split at e
    · rename_i ok
      cases e
      rw [Bool.and_eq_true] at ok
      obtain ⟨v, rfl, c⟩ := r.one
      exact blt_min hp hc hr S c.cv ok.1 ok.2 k0
    · cases e
  · unfold sortedD at e
    split at e
    · rename_i ok
      cases e
      obtain ⟨v, rfl, c⟩ := r.one
      exact blt_sorted hp hr S c.cv ok fun c ws hc q => newL S q hc k
    · cases e
  · obtain ⟨v, rfl, c⟩ := r.one
    exact blt_sortK hp hc c.cv e fun c ws ds hd hc q => by subst hd; exact newL S q hc k
  · obtain ⟨v, rfl, c⟩ := r.one
    exact listOf_lst hp S c.cv (by cases e; exact k)
  · obtain ⟨v, rfl, c⟩ := r.one
    exact listOf_tup hp S c.cv (by cases e; exact k)
  · obtain ⟨v, rfl, c⟩ := r.one
    cases c.cv; cases e
    exact wC_of call_int1 (.inl ⟨_, rfl, k0 _ (.int _)⟩)
  · obtain ⟨v, rfl, c⟩ := r.one
    cases c.cv; cases e
    exact wC_of call_int1 (.inr ⟨_, rfl, k0 _ (.int _)⟩)
  · split at e
    · rename_i hl
      obtain ⟨n, hn, hd⟩ := Option.map_eq_some_iff.mp e
      obtain ⟨v, rfl, c⟩ := r.one
      cases c.cv
      subst hd
      exact wC_of call_int_str ⟨_, _, rfl, hn, hl, k0 _ (.int _)⟩
    · cases e
  · split at e
    · rename_i hl
      cases e
      obtain ⟨v, rfl, c⟩ := r.one
      cases c.cv
      exact wC_of call_str_int ⟨_, rfl, hl, k0 _ (.str _)⟩
    · cases e
  · split at e
    · rename_i hl
      cases e
      obtain ⟨v, rfl, c⟩ := r.one
      cases c.cv
      exact wC_of call_ord ⟨_, rfl, hl, k0 _ (.int _)⟩
    · cases e
  · obtain ⟨v, rfl, c⟩ := r.one
    cases e
    obtain ⟨a, vs, rfl, q1, q2⟩ := c.cv
    exact wC_of call_tuple_of ⟨a, vs, rfl, .inl ⟨by rw [hK]; exact q1, fun l hl => newT S q2 hl k⟩⟩
  · split at e
    · rename_i h
      cases e
      obtain ⟨v, rfl, c⟩ := r.one
      exact blt_repr hp hr hg S c.cv h.1 h.2.1 h.2.2 (k0 _ (.str _))
    · unfold reprD' at e
      split at e
      · rename_i h
        cases e
        obtain ⟨v, rfl, c⟩ := r.one
        exact blt_shw hp hr hg S c.cv h (k0 _ (.str _))
      · cases e
  · cases e
theorem blt_new (b : Bi) (hb : b = .list ∨ b = .sorted) (hp : X.pg p.cls p.con = p) (hc : X.calm = true) (hr : X.A.units + 64 < cLine) (S : ∀ a o, F a = some o → SubH H a o) {ds : List D} {vs : List V} (r : CWs p F ι H vs ds) (e : bltD b ds = some d) {Q : VK}
    (k : ∀ c ws es, d = .lst es → H c = none → Reps p.K F ι ws es → Q (.ref c) (upd H c (.lst ws))) : wC X b.fn vs H Q := by
  have hK : X.K = p.K := by rw [← hp]; rfl
  unfold bltD at e
  split at e <;> try (rcases hb with hb | hb <;> cases hb)
  · unfold sortedD at e
    split at e
    · rename_i ok
      cases e
      obtain ⟨v, rfl, c⟩ := r.one
      exact blt_sorted hp hr S c.cv ok fun c ws hc q => k c ws _ rfl hc q
    · cases e
  · obtain ⟨v, rfl, c⟩ := r.one
    exact blt_sortK hp hc c.cv e k
  · obtain ⟨v, rfl, c⟩ := r.one
    obtain ⟨a, vs, rfl, q1, q2⟩ := c.cv
    cases e
    exact wC_of call_list_of ⟨a, vs, rfl, .inl (by rw [hK]; exact q1), fun l hl => k _ _ _ rfl hl q2⟩
  · obtain ⟨v, rfl, c⟩ := r.one
    obtain ⟨a, vs, rfl, q1, q2⟩ := c.cv
    cases e
    exact wC_of call_list_of ⟨a, vs, rfl, .inr (q1.sq), fun l hl => k _ _ _ rfl hl q2⟩
  all_goals cases e
end
end Z

set_option Elab.async false
set_option linter.all false
set_option maxRecDepth 100000
set_option maxHeartbeats 4000000
namespace Z
open PySem PySem.Spec PyProof.Rows L2

section
variable {p : Pg} {N : List Str} {sc : Scope} {fn : Str → Bool} {k : Nat} {X : Cx} {G : Fns} {ρ : Env'} {S : Store} {e ea eb ec : Expr} {pos : Pos} {a b c : Ex}
theorem Good.units (g : Good p N sc fn k X) : X.A.units + 64 < cLine := g.room.units
theorem Good.K (g : Good p N sc fn k X) : X.K = p.K := by rw [← g.pg]; rfl
/-- what a name's place holds -/
theorem fe_var {i : Nat} {x : Str} (g : Good p N sc fn k X) (hN : N[i]? = some x) (hv : Vis sc x) (h1 : (x == ("__debug__" : Str)) = false) (h2 : (x == ("__classdict__" : Str)) = false) : FE p X ρ S (.Name x pos) (evE G (.var i) ρ S) := by
  intro Pr F ι α σ H R d S' e Q q
  rw [evE] at e
  split at e
  · rename_i u hu
    cases e
    obtain ⟨v, e1, e2⟩ := R.fz i _ hu
    exact wE_of (pe_var (i := i) (by rw [g.hN]; exact hN) (by rw [g.sc]; exact hv) h1 h2) ⟨v, e1, q v F ι H R (LeH.refl _) (LeA.refl _) e2⟩
  · cases e
theorem fh_var {i : Nat} {x : Str} (g : Good p N sc fn k X) (hN : N[i]? = some x) (hv : Vis sc x) (h1 : (x == ("__debug__" : Str)) = false) (h2 : (x == ("__classdict__" : Str)) = false) : FH p X ρ S (.Name x pos) (hOf (.var i) ρ S (evE G (.var i) ρ S)) := by
  intro Pr F ι α σ H R d S' e Q q
  simp only [hOf] at e
  have pe := pe_var (X := X) (pos := pos) (i := i) (by rw [g.hN]; exact hN) (by rw [g.sc]; exact hv) h1 h2
  split at e
  · rename_i u hu
    cases e
    obtain ⟨e1, e2⟩ := R.own i _ hu
    exact wE_of pe ⟨_, e1, q _ F ι H R (LeH.refl _) (LeA.refl _) (show HRep p F ι α (.ref (α i)) (.slot i) from rfl)⟩
  · rename_i u hu
    cases e
    obtain ⟨v, e1, e2⟩ := R.fz i _ hu
    exact wE_of pe ⟨v, e1, q v F ι H R (LeH.refl _) (LeA.refl _) e2⟩
  · cases e
theorem fh_of (hn : ∀ i, a ≠ .var i) (h : FE p X ρ S e (evE G a ρ S)) : FH p X ρ S e (hOf a ρ S (evE G a ρ S)) := by
  intro Pr F ι α σ H R d S' e' Q q
  have : hOf a ρ S (evE G a ρ S) = (evE G a ρ S).map fun x => (Hd.val x.1, x.2) := by
    cases a <;> first | rfl | exact absurd rfl (hn _)
  rw [this] at e'
  obtain ⟨⟨d', S2⟩, h1, h2⟩ := Option.map_eq_some_iff.mp e'
  cases h2
  exact h Pr F ι α σ H R _ _ h1 Q fun v F' ι' H' R' l1 l2 r => q v F' ι' H' R' l1 l2 r
theorem fe_cst {c : Cst} {j : Nat} : ∀ {kc : Const}, (match c, kc with
    | .non, .none => true | .bl b, .bool b' => decide (b = b') | .int i, .int i' => decide (i = i') | .str x, .str y => decide (x = y)
    | _, _ => false) = true → FE p X ρ S (.Constant kc j pos) (evE G (.cst c) ρ S) := by
  intro kc hk Pr F ι α σ H R d S' e Q q
  rw [evE] at e
  cases e
  cases c <;> cases kc <;> simp at hk
  · exact wE_of pe_non (q _ F ι H R (LeH.refl _) (LeA.refl _) .non)
  · subst hk; exact wE_of pe_bl (q _ F ι H R (LeH.refl _) (LeA.refl _) (.bl _))
  · subst hk; exact wE_of pe_int (q _ F ι H R (LeH.refl _) (LeA.refl _) (.int _))
  · subst hk; exact wE_of pe_str (q _ F ι H R (LeH.refl _) (LeA.refl _) (.str _))
theorem fe_glb {x : Str} {gc : GC} (g : Good p N sc fn k X) (hg : sc.names.lookup x = some .globalImplicit) (hc : p.con x = some gc.d) (hd : (x == ("__debug__" : Str)) = false) : FE p X ρ S (.Name x pos) (evE G (.glb x gc) ρ S) := by
  intro Pr F ι α σ H R d S' e Q q
  rw [evE] at e
  cases e
  obtain ⟨u, v, h1, h2, h3⟩ := R.wd.con x _ hc
  have hm : X.mg x = some u := by rw [← h1, ← g.pg]; rfl
  exact wE_of (pe_glob (by show X.env.scope.names.lookup x = _; rw [g.sc]; exact hg) hm h2 hd) (q _ F ι H R (LeH.refl _) (LeA.refl _) h3)

/-- two operands, then what they hold at the end -/
theorem two_h {ra : Option (Hd × Store)} {rb : Store → Option (Hd × Store)} (ha : FH p X ρ S ea ra) (hb : ∀ S, FH p X ρ S eb (rb S)) {Pr F ι α σ H} (R : Rel p Pr ρ S F ι α σ H) {h1 h2 : Hd} {S1 S2 : Store} (e1 : ra = some (h1, S1)) (e2 : rb S1 = some (h2, S2)) {r : R2} {Q : VK}
    (q : ∀ x y F' ι' H', Rel p Pr ρ S2 F' ι' α σ H' → LeH F F' → LeA ι ι' → HRep p F' ι' α x h1 → HRep p F' ι' α y h2 → r x y H' Q) : tOp r (wE X ea) (wE X eb) σ H Q := by
  refine ha Pr F ι α σ H R _ _ e1 _ fun x F1 ι1 H1 R1 l1 m1 r1 => ?_
  refine hb S1 Pr F1 ι1 α σ H1 R1 _ _ e2 _ fun y F2 ι2 H2 R2 l2 m2 r2 => ?_
  exact q x y F2 ι2 H2 R2 (l1.trans l2) (m1.trans m2) (r1.le l2 m2) r2
theorem fe_bin {o : Operator} (g : Good p N sc fn k X) (ha : FH p X ρ S ea (hOf a ρ S (evE G a ρ S))) (hb : ∀ S, FH p X ρ S eb (hOf b ρ S (evE G b ρ S))) : FE p X ρ S (.BinOp ea o eb pos) (evE G (.bin o a b) ρ S) := by
  intro Pr F ι α σ H R d S' e Q q
  rw [evE] at e
  obtain ⟨⟨h1, S1⟩, e1, e⟩ := Option.bind_eq_some_iff.mp e
  obtain ⟨⟨h2, S2⟩, e2, e⟩ := Option.bind_eq_some_iff.mp e
  obtain ⟨u, e3, e⟩ := Option.bind_eq_some_iff.mp e
  obtain ⟨v, e4, e⟩ := Option.bind_eq_some_iff.mp e
  obtain ⟨d', e5, e6⟩ := Option.map_eq_some_iff.mp e
  cases e6
  refine wE_of (pe_op wR_ok peW peW) (two_h (rb := fun S => hOf b ρ S (evE G b ρ S)) ha hb R e1 e2 fun x y F' ι' H' R' l m r1 r2 => ?_)
  have c1 := cw_of R' r1 e3
  have c2 := cw_of R' r2 e4
  refine bin_ok o g.pg R'.wd.sub c1.cv c2.cv ?_ ?_ e5 fun z F2 H2 gr rz => q z F2 ι' H2 (R'.grow gr) (l.trans gr.f) m rz
  · cases u <;> first | exact .inl (c1.rep rfl) | exact .inr (fun _ h => nomatch h)
  · cases v <;> first | exact .inl (c2.rep rfl) | exact .inr (fun _ h => nomatch h)

theorem rd_cmp {o : CmpOp} (g : Good p N sc fn k X) (ha : FH p X ρ S ea (hOf a ρ S (evE G a ρ S))) (hb : ∀ S, FH p X ρ S eb (hOf b ρ S (evE G b ρ S))) {Pr F ι α σ H} (R : Rel p Pr ρ S F ι α σ H) {d : D} {S' : Store} (e : evE G (.cmp o a b) ρ S = some (d, S')) {Q : VK}
    (q : ∀ r F' ι' H', d = .bl r → Rel p Pr ρ S' F' ι' α σ H' → LeH F F' → LeA ι ι' → Q (.bl r) H') : tOp (wR X (compareOp o)) (wE X ea) (wE X eb) σ H Q := by
  rw [evE] at e
  obtain ⟨⟨h1, S1⟩, e1, e⟩ := Option.bind_eq_some_iff.mp e
  obtain ⟨⟨h2, S2⟩, e2, e⟩ := Option.bind_eq_some_iff.mp e
  obtain ⟨u, e3, e⟩ := Option.bind_eq_some_iff.mp e
  obtain ⟨v, e4, e⟩ := Option.bind_eq_some_iff.mp e
  obtain ⟨d', e5, e6⟩ := Option.map_eq_some_iff.mp e
  cases e6
  refine two_h (rb := fun S => hOf b ρ S (evE G b ρ S)) ha hb R e1 e2 fun x y F' ι' H' R' l m r1 r2 => ?_
  exact cmp_ok o g.pg g.units R'.wd.sub (cv_of R' r1 e3) (cv_of R' r2 e4) e5 (q _ F' ι' H' rfl R' l m)
theorem fe_cmp {o : CmpOp} (g : Good p N sc fn k X) (ha : FH p X ρ S ea (hOf a ρ S (evE G a ρ S))) (hb : ∀ S, FH p X ρ S eb (hOf b ρ S (evE G b ρ S))) (hm : behindInMarks o eb = false) : FE p X ρ S (.Compare ea [o] [eb] pos) (evE G (.cmp o a b) ρ S) := by
  intro Pr F ι α σ H R d S' e Q q
  exact wE_of (pe_cmpR wR_ok peW peW hm) (rd_cmp g ha hb R e fun r F' ι' H' ed R' l m => q _ F' ι' H' R' l m (by rw [ed]; exact .bl r))
theorem ft_cmp {o : CmpOp} (g : Good p N sc fn k X) (ha : FH p X ρ S ea (hOf a ρ S (evE G a ρ S))) (hb : ∀ S, FH p X ρ S eb (hOf b ρ S (evE G b ρ S))) (hm : behindInMarks o eb = false) : FT p X ρ S (.Compare ea [o] [eb] pos) (evE G (.cmp o a b) ρ S) := by
  intro Pr F ι α σ H R d S' e Q q
  exact wT_of (pt_cmpR wR_ok peW peW hm) (rd_cmp g ha hb R e fun r F' ι' H' ed R' l m => ⟨r, rfl, by cases ed; exact q F' ι' H' R' l m⟩)
theorem rd_chn {o o' : CmpOp} (g : Good p N sc fn k X) (ha : FH p X ρ S ea (hOf a ρ S (evE G a ρ S))) (hb : ∀ S, FH p X ρ S eb (hOf b ρ S (evE G b ρ S))) (hc : ∀ S, FH p X ρ S ec (hOf c ρ S (evE G c ρ S))) {Pr F ι α σ H} (R : Rel p Pr ρ S F ι α σ H) {d : D} {S' : Store} (e : evE G (.chn o o' a b c) ρ S = some (d, S')) {Q : VK}
    (q : ∀ r F' ι' H', d = .bl r → Rel p Pr ρ S' F' ι' α σ H' → LeH F F' → LeA ι ι' → Q (.bl r) H') : tChain (wR X (compareOp o)) (wR X (compareOp o')) (wE X ea) (wE X eb) (wE X ec) σ H Q := by
  rw [evE] at e
  obtain ⟨⟨h1, S1⟩, e1, e⟩ := Option.bind_eq_some_iff.mp e
  obtain ⟨⟨h2, S2⟩, e2, e⟩ := Option.bind_eq_some_iff.mp e
  obtain ⟨u, e3, e⟩ := Option.bind_eq_some_iff.mp e
  obtain ⟨v, e4, e⟩ := Option.bind_eq_some_iff.mp e
  obtain ⟨r, e5, e⟩ := Option.bind_eq_some_iff.mp e
  refine ha Pr F ι α σ H R _ _ e1 _ fun x F1 ι1 H1 R1 l1 m1 r1 => ?_
  refine hb S1 Pr F1 ι1 α σ H1 R1 _ _ e2 _ fun y F2 ι2 H2 R2 l2 m2 r2 => ?_
  refine cmp_ok o g.pg g.units R2.wd.sub (cv_of R2 (r1.le l2 m2) e3) (cv_of R2 r2 e4) e5 ⟨r, rfl, ?_⟩
  by_cases hr : r = true
  · rw [if_pos hr] at e ⊢
    obtain ⟨⟨h3, S3⟩, e6, e⟩ := Option.bind_eq_some_iff.mp e
    obtain ⟨v', e7, e⟩ := Option.bind_eq_some_iff.mp e
    obtain ⟨w, e8, e⟩ := Option.bind_eq_some_iff.mp e
    obtain ⟨r', e9, e10⟩ := Option.map_eq_some_iff.mp e
    cases e10
    refine hc S2 Pr F2 ι2 α σ H2 R2 _ _ e6 _ fun z F3 ι3 H3 R3 l3 m3 r3 => ?_
    exact cmp_ok o' g.pg g.units R3.wd.sub (cv_of R3 (r2.le l3 m3) e7) (cv_of R3 r3 e8) e9 (q _ F3 ι3 H3 rfl R3 ((l1.trans l2).trans l3) ((m1.trans m2).trans m3))
  · rw [if_neg hr] at e ⊢
    cases e
    exact q _ F2 ι2 H2 rfl R2 (l1.trans l2) (m1.trans m2)
theorem fe_chn {o o' : CmpOp} (g : Good p N sc fn k X) (ha : FH p X ρ S ea (hOf a ρ S (evE G a ρ S))) (hb : ∀ S, FH p X ρ S eb (hOf b ρ S (evE G b ρ S))) (hc : ∀ S, FH p X ρ S ec (hOf c ρ S (evE G c ρ S))) (hm : behindInMarks o' ec = false) :
    FE p X ρ S (.Compare ea [o, o'] [eb, ec] pos) (evE G (.chn o o' a b c) ρ S) := by
  intro Pr F ι α σ H R d S' e Q q
  exact wE_of (pe_chain wR_ok wR_ok peW peW peW hm) (rd_chn g ha hb hc R e fun r F' ι' H' ed R' l m => q _ F' ι' H' R' l m (by rw [ed]; exact .bl r))
theorem ft_chn {o o' : CmpOp} (g : Good p N sc fn k X) (ha : FH p X ρ S ea (hOf a ρ S (evE G a ρ S))) (hb : ∀ S, FH p X ρ S eb (hOf b ρ S (evE G b ρ S))) (hc : ∀ S, FH p X ρ S ec (hOf c ρ S (evE G c ρ S))) (hm : behindInMarks o' ec = false) :
    FT p X ρ S (.Compare ea [o, o'] [eb, ec] pos) (evE G (.chn o o' a b c) ρ S) := by
  intro Pr F ι α σ H R d S' e Q q
  exact wT_of (pt_chain wR_ok wR_ok peW peW peW hm) (rd_chn g ha hb hc R e fun r F' ι' H' ed R' l m => ⟨r, rfl, by cases ed; exact q F' ι' H' R' l m⟩)
theorem iso_ok (o : CmpOp) (ho : o = .Is ∨ o = .IsNot) {F H : Hp} {ι : List Addr} {x y : V} {u v d : D} (rx : Rep p.K F ι x u) (ry : Rep p.K F ι y v) (e : isoD u (decide (o = .IsNot)) v = some d) {Q : VK} (q : ∀ r, d = .bl r → Q (.bl r) H) : wR X (compareOp o) x y H Q := by
  unfold isoD at e
  split at e
  · cases ry
    cases e
    have hx : u.isNon = decide (x = .non) := by cases rx <;> simp [D.isNon]
    rcases ho with rfl | rfl
    · refine wR_of op_isN ⟨rfl, ?_⟩
      have := q _ rfl
      rw [hx] at this; simpa using this
    · refine wR_of op_notN ⟨rfl, ?_⟩
      have := q _ rfl
      rw [hx] at this; simpa using this
  · rename_i b; split at e
    · rename_i c; cases e
      cases rx; cases ry
      have hb : (c == b) = decide (c = b) := by cases b <;> cases c <;> rfl
      rcases ho with rfl | rfl
      · refine wR_of op_isBl ⟨c, b, rfl, rfl, ?_⟩
        have := q _ rfl
        rw [hb] at this; simpa using this
      · refine wR_of op_notBl ⟨c, b, rfl, rfl, ?_⟩
        have := q _ rfl
        rw [hb] at this; simpa using this
    · cases e
  · cases e
theorem rd_iso {o : CmpOp} (ho : o = .Is ∨ o = .IsNot) {n : Bool} (hn : n = decide (o = .IsNot)) (ha : FE p X ρ S ea (evE G a ρ S)) (hb : ∀ S, FE p X ρ S eb (evE G b ρ S)) {Pr F ι α σ H} (R : Rel p Pr ρ S F ι α σ H) {d : D} {S' : Store} (e : evE G (.iso n a b) ρ S = some (d, S')) {Q : VK}
    (q : ∀ r F' ι' H', d = .bl r → Rel p Pr ρ S' F' ι' α σ H' → LeH F F' → LeA ι ι' → Q (.bl r) H') : tOp (wR X (compareOp o)) (wE X ea) (wE X eb) σ H Q := by
  subst hn
  rw [evE] at e
  obtain ⟨⟨u, S1⟩, e1, e⟩ := Option.bind_eq_some_iff.mp e
  obtain ⟨⟨v, S2⟩, e2, e⟩ := Option.bind_eq_some_iff.mp e
  obtain ⟨d', e5, e6⟩ := Option.map_eq_some_iff.mp e
  cases e6
  refine ha Pr F ι α σ H R _ _ e1 _ fun x F1 ι1 H1 R1 l1 m1 r1 => ?_
  refine hb S1 Pr F1 ι1 α σ H1 R1 _ _ e2 _ fun y F2 ι2 H2 R2 l2 m2 r2 => ?_
  exact iso_ok o ho (r1.le l2 m2) r2 e5 fun r hr => q r F2 ι2 H2 hr R2 (l1.trans l2) (m1.trans m2)
theorem fe_iso {o : CmpOp} (ho : o = .Is ∨ o = .IsNot) {n : Bool} (hn : n = decide (o = .IsNot)) (ha : FE p X ρ S ea (evE G a ρ S)) (hb : ∀ S, FE p X ρ S eb (evE G b ρ S)) (hm : behindInMarks o eb = false) : FE p X ρ S (.Compare ea [o] [eb] pos) (evE G (.iso n a b) ρ S) := by
  intro Pr F ι α σ H R d S' e Q q
  exact wE_of (pe_cmpR wR_ok peW peW hm) (rd_iso ho hn ha hb R e fun r F' ι' H' ed R' l m => q _ F' ι' H' R' l m (by rw [ed]; exact .bl r))
theorem ft_iso {o : CmpOp} (ho : o = .Is ∨ o = .IsNot) {n : Bool} (hn : n = decide (o = .IsNot)) (ha : FE p X ρ S ea (evE G a ρ S)) (hb : ∀ S, FE p X ρ S eb (evE G b ρ S)) (hm : behindInMarks o eb = false) : FT p X ρ S (.Compare ea [o] [eb] pos) (evE G (.iso n a b) ρ S) := by
  intro Pr F ι α σ H R d S' e Q q
  exact wT_of (pt_cmpR wR_ok peW peW hm) (rd_iso ho hn ha hb R e fun r F' ι' H' ed R' l m => ⟨r, rfl, by cases ed; exact q F' ι' H' R' l m⟩)
/-- a value as a test -/
theorem ft_val {r : Option (D × Store)} (h : FE p X ρ S e r) (he : ∀ whole, isTrue e X.env whole = (do let v ← whole; standAt e.pos; holding [v] (truthy v))) : FT p X ρ S e r := by
  intro Pr F ι α σ H R d S' e' Q q
  exact wT_of (pt_val peW he) (h Pr F ι α σ H R _ _ e' _ fun v F' ι' H' R' l m rv => by cases rv; exact ⟨d, rfl, q F' ι' H' R' l m⟩)
theorem blOf_eq {d : D} {c : Bool} (h : blOf d = some c) : d = .bl c := by cases d <;> simp_all [blOf]
theorem intOf_eq {d : D} {c : Int} (h : intOf d = some c) : d = .int c := by cases d <;> simp_all [intOf]
theorem fe_neg (ha : FE p X ρ S ea (evE G a ρ S)) : FE p X ρ S (.UnaryOp .USub ea pos) (evE G (.neg a) ρ S) := by
  intro Pr F ι α σ H R d S' e Q q
  rw [evE] at e
  obtain ⟨⟨u, S1⟩, e1, e⟩ := Option.bind_eq_some_iff.mp e
  obtain ⟨i, e2, e3⟩ := Option.map_eq_some_iff.mp e
  cases e3
  cases intOf_eq e2
  exact wE_of (pe_un un_neg peW) (ha Pr F ι α σ H R _ _ e1 _ fun v F' ι' H' R' l m rv => by cases rv; exact ⟨_, rfl, q _ F' ι' H' R' l m (.int _)⟩)
theorem fe_not (ha : FE p X ρ S ea (evE G a ρ S)) : FE p X ρ S (.UnaryOp .Not ea pos) (evE G (.not a) ρ S) := by
  intro Pr F ι α σ H R d S' e Q q
  rw [evE] at e
  obtain ⟨⟨u, S1⟩, e1, e⟩ := Option.bind_eq_some_iff.mp e
  obtain ⟨i, e2, e3⟩ := Option.map_eq_some_iff.mp e
  cases e3
  cases blOf_eq e2
  exact wE_of (pe_not peW) (ha Pr F ι α σ H R _ _ e1 _ fun v F' ι' H' R' l m rv => by cases rv; exact ⟨_, rfl, q _ F' ι' H' R' l m (.bl _)⟩)
theorem ft_not (ha : FT p X ρ S ea (evE G a ρ S)) : FT p X ρ S (.UnaryOp .Not ea pos) (evE G (.not a) ρ S) := by
  intro Pr F ι α σ H R d S' e Q q
  rw [evE] at e
  obtain ⟨⟨u, S1⟩, e1, e⟩ := Option.bind_eq_some_iff.mp e
  obtain ⟨i, e2, e3⟩ := Option.map_eq_some_iff.mp e
  cases e3
  cases blOf_eq e2
  exact wT_of (pt_not ptW) (ha Pr F ι α σ H R _ _ e1 _ fun F' ι' H' R' l m => q F' ι' H' R' l m)
section
variable {es : List Expr}
/-- the last of a chain of and, or -/
theorem fe_one {op : BoolOp} {r : Option (D × Store)} (h : FE p X ρ S e r) : FE p X ρ S (.BoolOp op [e] pos) r := by
  intro Pr F ι α σ H R d S' e' Q q
  exact wE_of (pe_one peW) (h Pr F ι α σ H R _ _ e' _ q)
theorem fe_and (ha : FE p X ρ S ea (evE G a ρ S)) (hb : ∀ S, FE p X ρ S (.BoolOp .And (eb :: es) pos) (evE G b ρ S)) : FE p X ρ S (.BoolOp .And (ea :: eb :: es) pos) (evE G (.and a b) ρ S) := by
  intro Pr F ι α σ H R d S' e Q q
  rw [evE] at e
  obtain ⟨⟨u, S1⟩, e1, e⟩ := Option.bind_eq_some_iff.mp e
  obtain ⟨i, e2, e3⟩ := Option.bind_eq_some_iff.mp e
  cases blOf_eq e2
  refine wE_of (pe_and peW peW) (ha Pr F ι α σ H R _ _ e1 _ fun v F' ι' H' R' l m rv => ?_)
  cases rv
  refine ⟨i, rfl, ?_⟩
  by_cases hi : i = true
  · rw [if_pos hi] at e3 ⊢
    exact hb S1 Pr F' ι' α σ H' R' _ _ e3 _ fun w F2 ι2 H2 R2 l2 m2 rw' => q w F2 ι2 H2 R2 (l.trans l2) (m.trans m2) rw'
  · rw [if_neg hi] at e3 ⊢
    cases e3
    exact q _ F' ι' H' R' l m (.bl _)
theorem fe_or (ha : FE p X ρ S ea (evE G a ρ S)) (hb : ∀ S, FE p X ρ S (.BoolOp .Or (eb :: es) pos) (evE G b ρ S)) : FE p X ρ S (.BoolOp .Or (ea :: eb :: es) pos) (evE G (.or a b) ρ S) := by
  intro Pr F ι α σ H R d S' e Q q
  rw [evE] at e
  obtain ⟨⟨u, S1⟩, e1, e⟩ := Option.bind_eq_some_iff.mp e
  obtain ⟨i, e2, e3⟩ := Option.bind_eq_some_iff.mp e
  cases blOf_eq e2
  refine wE_of (pe_or peW peW) (ha Pr F ι α σ H R _ _ e1 _ fun v F' ι' H' R' l m rv => ?_)
  cases rv
  refine ⟨i, rfl, ?_⟩
  by_cases hi : i = true
  · rw [if_pos hi] at e3 ⊢
    cases e3
    exact q _ F' ι' H' R' l m (.bl _)
  · rw [if_neg hi] at e3 ⊢
    exact hb S1 Pr F' ι' α σ H' R' _ _ e3 _ fun w F2 ι2 H2 R2 l2 m2 rw' => q w F2 ι2 H2 R2 (l.trans l2) (m.trans m2) rw'
theorem pwOf {op : BoolOp} {t : TT} (h : PT X (.BoolOp op es pos) t) : PW X (.BoolOp op es pos) t := ⟨fun wh pins s σ H Q I q => by
  have := h.run pins s σ H Q I q
  simp only [PySem.isTrue] at this ⊢
  exact this⟩
theorem ft_one {op : BoolOp} {r : Option (D × Store)} (h : FT p X ρ S e r) : FT p X ρ S (.BoolOp op [e] pos) r := by
  intro Pr F ι α σ H R d S' e' Q q
  cases op with
  | And => exact wT_of (pw_and1 ptW).pt (h Pr F ι α σ H R _ _ e' _ q)
  | Or => exact wT_of (pw_or1 ptW).pt (h Pr F ι α σ H R _ _ e' _ q)
theorem ft_and (ha : FT p X ρ S ea (evE G a ρ S)) (hb : ∀ S, FT p X ρ S (.BoolOp .And (eb :: es) pos) (evE G b ρ S)) : FT p X ρ S (.BoolOp .And (ea :: eb :: es) pos) (evE G (.and a b) ρ S) := by
  intro Pr F ι α σ H R d S' e Q q
  rw [evE] at e
  obtain ⟨⟨u, S1⟩, e1, e⟩ := Option.bind_eq_some_iff.mp e
  obtain ⟨i, e2, e3⟩ := Option.bind_eq_some_iff.mp e
  cases blOf_eq e2
  refine wT_of (pw_and ptW (pwOf ptW)).pt (ha Pr F ι α σ H R _ _ e1 _ fun F' ι' H' R' l m => ?_)
  by_cases hi : i = true
  · rw [if_pos hi] at e3 ⊢
    exact hb S1 Pr F' ι' α σ H' R' _ _ e3 _ fun F2 ι2 H2 R2 l2 m2 => q F2 ι2 H2 R2 (l.trans l2) (m.trans m2)
  · rw [if_neg hi] at e3 ⊢
    cases e3
    exact q F' ι' H' R' l m
theorem ft_or (ha : FT p X ρ S ea (evE G a ρ S)) (hb : ∀ S, FT p X ρ S (.BoolOp .Or (eb :: es) pos) (evE G b ρ S)) : FT p X ρ S (.BoolOp .Or (ea :: eb :: es) pos) (evE G (.or a b) ρ S) := by
  intro Pr F ι α σ H R d S' e Q q
  rw [evE] at e
  obtain ⟨⟨u, S1⟩, e1, e⟩ := Option.bind_eq_some_iff.mp e
  obtain ⟨i, e2, e3⟩ := Option.bind_eq_some_iff.mp e
  cases blOf_eq e2
  refine wT_of (pw_or ptW (pwOf ptW)).pt (ha Pr F ι α σ H R _ _ e1 _ fun F' ι' H' R' l m => ?_)
  by_cases hi : i = true
  · rw [if_pos hi] at e3 ⊢
    cases e3
    exact q F' ι' H' R' l m
  · rw [if_neg hi] at e3 ⊢
    exact hb S1 Pr F' ι' α σ H' R' _ _ e3 _ fun F2 ι2 H2 R2 l2 m2 => q F2 ι2 H2 R2 (l.trans l2) (m.trans m2)
end
theorem fe_ife (hc : FT p X ρ S ec (evE G c ρ S)) (ha : ∀ S, FE p X ρ S ea (evE G a ρ S)) (hb : ∀ S, FE p X ρ S eb (evE G b ρ S)) : FE p X ρ S (.IfExp ec ea eb pos) (evE G (.ife c a b) ρ S) := by
  intro Pr F ι α σ H R d S' e Q q
  rw [evE] at e
  obtain ⟨⟨u, S1⟩, e1, e⟩ := Option.bind_eq_some_iff.mp e
  obtain ⟨i, e2, e3⟩ := Option.bind_eq_some_iff.mp e
  cases blOf_eq e2
  refine wE_of (pe_ifExp ptW peW peW) (hc Pr F ι α σ H R _ _ e1 _ fun F' ι' H' R' l m => ?_)
  by_cases hi : i = true
  · rw [if_pos hi] at e3 ⊢
    exact ha S1 Pr F' ι' α σ H' R' _ _ e3 _ fun w F2 ι2 H2 R2 l2 m2 rw' => q w F2 ι2 H2 R2 (l.trans l2) (m.trans m2) rw'
  · rw [if_neg hi] at e3 ⊢
    exact hb S1 Pr F' ι' α σ H' R' _ _ e3 _ fun w F2 ι2 H2 R2 l2 m2 rw' => q w F2 ι2 H2 R2 (l.trans l2) (m.trans m2) rw'

/-! ## argument lists, displays -/
def isStar : Expr → Bool
  | .Starred _ _ => true
  | _ => false
theorem star_cons {e : Expr} {es : List Expr} {env : Env} (h : isStar e = false) : starEach (e :: es) env = (false, eval e env) :: starEach es env := by
  cases e <;> first | rfl | cases h
theorem fa_nil : FA p X ρ S [] (evA G .nil ρ S) := by
  intro Pr F ι α σ H R ds S' e Q q
  rw [evA] at e
  cases e
  exact wA_of pa_nil (q [] F ι H R (LeH.refl _) (LeA.refl _) .nil)
theorem fa_cons {es : List Expr} {as : Ar} (hs : isStar e = false) (ha : FE p X ρ S e (evE G a ρ S)) (hr : ∀ S, FA p X ρ S es (evA G as ρ S)) : FA p X ρ S (e :: es) (evA G (.cons a as) ρ S) := by
  intro Pr F ι α σ H R ds S' e' Q q
  rw [evA] at e'
  obtain ⟨⟨u, S1⟩, e1, e'⟩ := Option.bind_eq_some_iff.mp e'
  obtain ⟨⟨us, S2⟩, e2, e3⟩ := Option.map_eq_some_iff.mp e'
  cases e3
  refine wA_of (pa_cons peW paW (star_cons hs)) (ha Pr F ι α σ H R _ _ e1 _ fun v F' ι' H' R' l m rv => ?_)
  exact hr S1 Pr F' ι' α σ H' R' _ _ e2 _ fun vs F2 ι2 H2 R2 l2 m2 rs => q (v :: vs) F2 ι2 H2 R2 (l.trans l2) (m.trans m2) (.cons (rv.le l2 m2) rs)
theorem fhs_nil : FHs p X ρ S [] (evH G .nil ρ S) := by
  intro Pr F ι α σ H R ds S' e Q q
  rw [evH] at e
  cases e
  exact wA_of pa_nil (q [] F ι H R (LeH.refl _) (LeA.refl _) .nil)
theorem HReps.le {F F' : Hp} {ι ι' : List Addr} {α : Nat → Addr} {vs : List V} {hs : List Hd} (l : LeH F F') (m : LeA ι ι') (r : HReps p F ι α vs hs) : HReps p F' ι' α vs hs := Paired.mapP r fun _ _ q => q.le l m
theorem fhs_cons {es : List Expr} {as : Ar} (hs : isStar e = false) (ha : FH p X ρ S e (hOf a ρ S (evE G a ρ S))) (hr : ∀ S, FHs p X ρ S es (evH G as ρ S)) : FHs p X ρ S (e :: es) (evH G (.cons a as) ρ S) := by
  intro Pr F ι α σ H R ds S' e' Q q
  rw [evH] at e'
  obtain ⟨⟨u, S1⟩, e1, e'⟩ := Option.bind_eq_some_iff.mp e'
  obtain ⟨⟨us, S2⟩, e2, e3⟩ := Option.map_eq_some_iff.mp e'
  cases e3
  refine wA_of (pa_cons peW paW (star_cons hs)) (ha Pr F ι α σ H R _ _ e1 _ fun v F' ι' H' R' l m rv => ?_)
  exact hr S1 Pr F' ι' α σ H' R' _ _ e2 _ fun vs F2 ι2 H2 R2 l2 m2 rs => q (v :: vs) F2 ι2 H2 R2 (l.trans l2) (m.trans m2) (.cons (rv.le l2 m2) rs)
theorem fe_tup {es : List Expr} {as : Ar} {x1 : Nat} (ha : FA p X ρ S es (evA G as ρ S)) : FE p X ρ S (.Tuple es x1 pos) (evE G (.tup as) ρ S) := by
  intro Pr F ι α σ H R d S' e Q q
  rw [evE] at e
  obtain ⟨⟨us, S1⟩, e1, e⟩ := Option.bind_eq_some_iff.mp e
  split at e
  · rename_i hz
    cases e
    refine wE_of (pe_tup paW) (ha Pr F ι α σ H R _ _ e1 _ fun vs F' ι' H' R' l m rs => ⟨by rw [rs.length]; exact hz, fun c hc => ?_⟩)
    exact newT R'.wd.sub rs hc fun z F2 H2 gr rz => q z F2 ι' H2 (R'.grow gr) (l.trans gr.f) m rz
  · cases e
theorem fe_list {es : List Expr} {as : Ar} (ha : FA p X ρ S es (evA G as ρ S)) : FE p X ρ S (.List es pos) (evE G (.list as) ρ S) := by
  intro Pr F ι α σ H R d S' e Q q
  rw [evE] at e
  obtain ⟨⟨us, S1⟩, e1, e⟩ := Option.bind_eq_some_iff.mp e
  split at e
  · rename_i hz
    cases e
    refine wE_of (pe_lst paW) (ha Pr F ι α σ H R _ _ e1 _ fun vs F' ι' H' R' l m rs => ⟨by rw [rs.length]; exact hz, fun c hc => ?_⟩)
    exact newL R'.wd.sub rs hc fun z F2 H2 gr rz => q z F2 ι' H2 (R'.grow gr) (l.trans gr.f) m rz
  · cases e
theorem fe_idx (g : Good p N sc fn k X) (hb0 : PlainIx eb) (ha : FH p X ρ S ea (hOf a ρ S (evE G a ρ S))) (hb : ∀ S, FE p X ρ S eb (evE G b ρ S)) : FE p X ρ S (.Subscript ea eb pos) (evE G (.idx a b) ρ S) := by
  intro Pr F ι α σ H R d S' e Q q
  rw [evE] at e
  obtain ⟨⟨h1, S1⟩, e1, e⟩ := Option.bind_eq_some_iff.mp e
  obtain ⟨⟨i, S2⟩, e2, e⟩ := Option.bind_eq_some_iff.mp e
  obtain ⟨u, e3, e⟩ := Option.bind_eq_some_iff.mp e
  obtain ⟨d', e5, e6⟩ := Option.map_eq_some_iff.mp e
  cases e6
  refine wE_of (pe_wIx peW peW) (ha Pr F ι α σ H R _ _ e1 _ fun x F1 ι1 H1 R1 l1 m1 r1 => ?_)
  refine hb S1 Pr F1 ι1 α σ H1 R1 _ _ e2 _ fun y F2 ι2 H2 R2 l2 m2 r2 => ?_
  exact idx_ok g.pg g.units hb0 R2.wd.sub (cv_of R2 (r1.le l2 m2) e3) r2 e5 fun z rz => q z F2 ι2 H2 R2 (l1.trans l2) (m1.trans m2) rz
theorem plain_ix (h : (match eb with | .Slice _ _ _ _ => false | _ => true) = true) : PlainIx eb := by
  intro o i
  cases eb <;> first | rfl | cases h
theorem cws_of {Pr F ι α σ H} {S1 : Store} (R : Rel p Pr ρ S1 F ι α σ H) : ∀ {vs : List V} {hs : List Hd} {us : List D}, HReps p F ι α vs hs → hs.mapM (cont ρ S1) = some us → CWs p F ι H vs us := by
  intro vs hs us r
  induction r generalizing us with
  | nil => intro h; simp at h; subst h; exact .nil
  | cons a r ih =>
    intro h
    rw [List.mapM_cons] at h
    obtain ⟨y, h1, h⟩ := Option.bind_eq_some_iff.mp h
    obtain ⟨ys, h2, h⟩ := Option.bind_eq_some_iff.mp h
    cases h
    exact .cons (cw_of R a h1) (ih h2)
theorem fe_blt {es : List Expr} {as : Ar} {bi : Bi} {x : Str} {ps : Pos} (g : Good p N sc fn k X) (hx : x = bi.name) (hg : sc.names.lookup x = some .globalImplicit) (hm : p.mg x = none) (hb : bi ≠ .setLen) (h0 : isStar e = false) (hpl : (es.all fun e => !isStar e) = true) (ha : FHs p X ρ S (e :: es) (evH G as ρ S)) :
    FE p X ρ S (.Call (.Name x ps) (e :: es) [] pos) (evE G (.blt bi as) ρ S) := by
  intro Pr F ι α σ H R d S' e' Q q
  rw [evE] at e'
  obtain ⟨⟨hs, S1⟩, e1, e'⟩ := Option.bind_eq_some_iff.mp e'
  obtain ⟨us, e2, e'⟩ := Option.bind_eq_some_iff.mp e'
  obtain ⟨d', e5, e6⟩ := Option.map_eq_some_iff.mp e'
  cases e6
  have hG : Gl X x := by show X.env.scope.names.lookup x = _; rw [g.sc]; exact hg
  have hM : X.mg x = none := by rw [← hm, ← g.pg]; rfl
  have any0 : ∀ l : List Expr, (l.all fun e => !isStar e) = true → (backTo pos (starEach l X.env)).any (·.1) = false := by
    intro l
    induction l with
    | nil => intro _; rfl
    | cons y l ih =>
      intro h
      rw [List.all_cons, Bool.and_eq_true, Bool.not_eq_true'] at h
      rw [star_cons h.1]
      show (false || (backTo pos (starEach l X.env)).any (·.1)) = false
      rw [ih h.2]; rfl
  have rd : tCB (wC X bi.fn) (wA X (e :: es)) σ H Q := by
    refine ha Pr F ι α σ H R _ _ e1 _ fun vs F' ι' H' R' l m rs => ?_
    exact blt_ok bi g.pg g.calm g.units g.grd R'.wd.sub (cws_of R' rs e2) e5 fun z F2 H2 gr rz => q z F2 ι' H2 (R'.grow gr) (l.trans gr.f) m rz
  subst hx
  cases bi <;> first
    | exact absurd rfl hb
    | exact wE_of (pe_callB wC_ok hG hM (by decide +kernel) paW (by decide) (by decide) (star_cons h0) (any0 _ hpl)) rd
    | exact wE_of (pe_callTy wC_ok hG hM (by decide +kernel) paW (by decide) (by decide) (star_cons h0) (any0 _ hpl)) rd
end
end Z

set_option Elab.async false
set_option linter.all false
set_option maxRecDepth 100000
set_option maxHeartbeats 4000000
namespace Z
open PySem PySem.Spec PyProof.Rows L2

/-! # new containers, changed containers -/
structure Fr (p : Pg) (Pr : Hp) (ρ : Env') (F : Hp) (ι : List Addr) (α : Nat → Addr) (H : Hp) (a : Addr) (d : D) : Prop where
  rep : CRep p.K F ι H a d
  nf : F a = none
  ni : a ∉ ι
  np : Pr a = none
  no : ∀ j e, ρ[j]? = some (.own e) → α j ≠ a
/-- a new container comes, known to nobody -/
def FN (p : Pg) (X : Cx) (ρ : Env') (S : Store) (e : Expr) (r : Option (D × Store)) : Prop :=
  ∀ Pr F ι α σ H, Rel p Pr ρ S F ι α σ H → ∀ d S', r = some (d, S') → ∀ Q : VK,
    (∀ a F' ι' H', Rel p Pr ρ S' F' ι' α σ H' → LeH F F' → LeA ι ι' → Fr p Pr ρ F' ι' α H' a d → Q (.ref a) H') → wE X e σ H Q
section
variable {p : Pg} {Pr : Hp} {ρ : Env'} {S : Store} {F : Hp} {ι : List Addr} {α : Nat → Addr} {σ : L2.St} {H : Hp} {a : Addr} {d : D} {o : HO}
theorem CRep.rep {K : PySem.W.Frag} (r : CRep K F ι H a d) : ∃ o, H a = some o ∧ ∀ F' : Hp, LeH F F' → F' a = some o → Rep K F' ι (.ref a) d := by
  cases d <;> simp only [CRep] at r
  · obtain ⟨vs, e, q⟩ := r; exact ⟨_, e, fun F' l h => .lst h (q.le l (LeA.refl _))⟩
  · obtain ⟨vs, e, k, q⟩ := r; exact ⟨_, e, fun F' l h => .dK h k (q.le l (LeA.refl _))⟩
  · obtain ⟨vs, e, k, q⟩ := r; exact ⟨_, e, fun F' l h => .dT h k (q.le l (LeA.refl _))⟩
/-- from now on it stays as it is -/
theorem Rel.freeze (R : Rel p Pr ρ S F ι α σ H) (f : Fr p Pr ρ F ι α H a d) : ∃ F', Rel p Pr ρ S F' ι α σ H ∧ LeH F F' ∧ Rep p.K F' ι (.ref a) d := by
  obtain ⟨o, ha, hr⟩ := f.rep.rep
  have l : LeH F (upd F a o) := LeH.upd f.nf
  refine ⟨upd F a o, ?_, l, hr _ l upd_same⟩
  exact {
    wd := {
      sub := fun b u e => by
        by_cases hb : b = a
        · subst hb; rw [upd_same] at e; cases e; exact .inl ha
        · rw [upd_ne hb] at e; exact R.wd.sub b u e
      con := fun x d h => let ⟨u, v, h1, h2, h3⟩ := R.wd.con x d h; ⟨u, v, h1, h2, h3.le l (LeA.refl _)⟩
      len := R.wd.len
      nd := R.wd.nd
      cell := fun n c b h1 h2 => by
        obtain ⟨q1, q2⟩ := R.wd.cell n c b h1 h2
        refine ⟨?_, q2.le l (LeA.refl _) rfl⟩
        rw [upd_ne (fun z => f.ni (by rw [← z]; exact List.mem_of_getElem? h2))]; exact q1
      prot := fun b u h => by
        obtain ⟨q1, q2, q3⟩ := R.wd.prot b u h
        refine ⟨q1, q2.imp (fun q => ?_) id, q3⟩
        rw [upd_ne (fun z => by rw [z, f.np] at h; cases h)]; exact q }
    fz := fun i d h => let ⟨v, h1, h2⟩ := R.fz i d h; ⟨v, h1, h2.le l (LeA.refl _)⟩
    own := fun i d h => by
      obtain ⟨h1, h2, h3, h4, h5⟩ := R.own i d h
      exact ⟨h1, by rw [upd_ne (f.no i d h)]; exact h2, h3, h4.le l (LeA.refl _) rfl, h5⟩
    lng := R.lng
    inj := R.inj }
/-- laid just now -/
theorem Rel.alloc (R : Rel p Pr ρ S F ι α σ H) (h : H a = none) (c : ∀ G : Hp, G a = some o → CRep p.K F ι G a d) : Rel p Pr ρ S F ι α σ (upd H a o) ∧ Fr p Pr ρ F ι α (upd H a o) a d := by
  have hF := R.wd.fresh h
  refine ⟨R.grow ⟨LeH.upd h, LeH.refl _, fun b u e => .inl e⟩, c _ upd_same, hF, R.wd.notin h, ?_, fun j e hj z => ?_⟩
  · cases q : Pr a with
    | none => rfl
    | some u => rw [(R.wd.prot a u q).1] at h; cases h
  · obtain ⟨_, _, _, h4, _⟩ := R.own j e hj
    obtain ⟨u, t, _⟩ := h4.there
    rw [z, h] at t; cases t
/-- among the store's things -/
theorem Rel.addC {c : Cell} (R : Rel p Pr ρ S F ι α σ H) (frep : CellRep p F ι H a c) (fnf : F a = none) (fni : a ∉ ι) (fnp : Pr a = none) (fno : ∀ j e, ρ[j]? = some (.own e) → α j ≠ a) : Rel p Pr ρ (S ++ [c]) F (ι ++ [a]) α σ H ∧ (ι ++ [a])[S.length]? = some a := by
  have l : LeA ι (ι ++ [a]) := LeA.app _ _
  have at_ : (ι ++ [a])[S.length]? = some a := by rw [← R.wd.len, List.getElem?_append_right (Nat.le_refl _)]; simp
  have old : ∀ {n : Nat} {b : Addr}, (ι ++ [a])[n]? = some b → ι[n]? = some b ∨ (n = S.length ∧ b = a) := fun {n b} h => by
    by_cases hn : n < ι.length
    · rw [List.getElem?_append_left hn] at h; exact .inl h
    · have : n = S.length := by
        have := (List.getElem?_eq_some_iff.mp h).1
        rw [List.length_append, List.length_singleton, R.wd.len] at this
        rw [R.wd.len] at hn
        omega
      subst this
      rw [at_] at h; cases h; exact .inr ⟨rfl, rfl⟩
  refine ⟨{
    wd := {
      sub := R.wd.sub
      con := fun x d h => let ⟨u, v, h1, h2, h3⟩ := R.wd.con x d h; ⟨u, v, h1, h2, h3.le (LeH.refl _) l⟩
      len := by rw [List.length_append, List.length_append, R.wd.len]; rfl
      nd := List.nodup_append.mpr ⟨R.wd.nd, List.nodup_cons.mpr ⟨List.not_mem_nil, List.nodup_nil⟩, fun x hx y hy z => by
        have : y = a := by simpa using hy
        rw [z, this] at hx; exact fni hx⟩
      cell := fun n c b h1 h2 => by
        rcases old h2 with h2 | ⟨rfl, rfl⟩
        · have hl : n < S.length := by rw [← R.wd.len]; exact (List.getElem?_eq_some_iff.mp h2).1
          rw [List.getElem?_append_left hl] at h1
          obtain ⟨q1, q2⟩ := R.wd.cell n c b h1 h2
          exact ⟨q1, q2.le (LeH.refl _) l rfl⟩
        · rw [List.getElem?_append_right (Nat.le_refl _)] at h1
          simp at h1; subst h1
          exact ⟨fnf, frep.le (LeH.refl _) l rfl⟩
      prot := fun b u h => by
        obtain ⟨q1, q2, q3⟩ := R.wd.prot b u h
        refine ⟨q1, q2, fun n c h2 h1 => ?_⟩
        rcases old h2 with h2 | ⟨rfl, rfl⟩
        · have hl : n < S.length := by rw [← R.wd.len]; exact (List.getElem?_eq_some_iff.mp h2).1
          rw [List.getElem?_append_left hl] at h1
          exact q3 n c h2 h1
        · rw [fnp] at h; cases h }
    fz := fun i d h => let ⟨v, h1, h2⟩ := R.fz i d h; ⟨v, h1, h2.le (LeH.refl _) l⟩
    own := fun i d h => by
      obtain ⟨h1, h2, h3, h4, h5⟩ := R.own i d h
      refine ⟨h1, h2, fun z => ?_, h4.le (LeH.refl _) l rfl, h5⟩
      rcases List.mem_append.mp z with z | z
      · exact h3 z
      · exact fno i d h (by simpa using z)
    lng := R.lng
    inj := R.inj }, at_⟩
theorem Rel.addCell (R : Rel p Pr ρ S F ι α σ H) (f : Fr p Pr ρ F ι α H a d) : Rel p Pr ρ (S ++ [.con d]) F (ι ++ [a]) α σ H ∧ (ι ++ [a])[S.length]? = some a := R.addC (c := .con d) f.rep f.nf f.ni f.np f.no
/-- a thing of the store changed -/
theorem Rel.put {n : Nat} {c : Cell} (R : Rel p Pr ρ S F ι α σ H) (hn : ι[n]? = some a) (hp : Pr a = none) (hc : CellRep p F ι (upd H a o) a c) : Rel p Pr ρ (S.set n c) F ι α σ (upd H a o) := by
  have hl : n < S.length := by rw [← R.wd.len]; exact (List.getElem?_eq_some_iff.mp hn).1
  obtain ⟨f1, _⟩ := R.wd.cell n S[n] a (List.getElem?_eq_getElem hl) hn
  have ne : ∀ {m : Nat} {b : Addr}, ι[m]? = some b → m ≠ n → b ≠ a := fun {m b} h z e => by
    subst e
    obtain ⟨l1, e1⟩ := List.getElem?_eq_some_iff.mp h
    obtain ⟨l2, e2⟩ := List.getElem?_eq_some_iff.mp hn
    have pw := List.pairwise_iff_getElem.mp R.wd.nd
    rcases Nat.lt_or_gt_of_ne z with y | y
    · exact pw _ _ l1 l2 y (e1.trans e2.symm)
    · exact pw _ _ l2 l1 y (e2.trans e1.symm)
  have mem : a ∈ ι := List.mem_of_getElem? hn
  exact {
    wd := {
      sub := fun b u e => by
        have hb : b ≠ a := fun z => by rw [z, f1] at e; cases e
        rcases R.wd.sub b u e with h | ⟨k, ob, h⟩
        · exact .inl (by rw [upd_ne hb]; exact h)
        · exact .inr ⟨k, ob, by rw [upd_ne hb]; exact h⟩
      con := R.wd.con
      len := by rw [List.length_set]; exact R.wd.len
      nd := R.wd.nd
      cell := fun m c' b h1 h2 => by
        by_cases hm : m = n
        · subst hm
          rw [hn] at h2; cases h2
          rw [List.getElem?_set_self hl] at h1; cases h1
          exact ⟨f1, hc⟩
        · rw [List.getElem?_set_ne (fun z => hm z.symm)] at h1
          obtain ⟨q1, q2⟩ := R.wd.cell m c' b h1 h2
          exact ⟨q1, q2.le (LeH.refl _) (LeA.refl _) (upd_ne (ne h2 hm))⟩
      prot := fun b u h => by
        obtain ⟨q1, q2, q3⟩ := R.wd.prot b u h
        have hb : b ≠ a := fun z => by rw [z, hp] at h; cases h
        refine ⟨by rw [upd_ne hb]; exact q1, q2, fun m c' h2 h1 => ?_⟩
        have hm : m ≠ n := fun z => by subst z; rw [hn] at h2; cases h2; exact hb rfl
        rw [List.getElem?_set_ne (fun z => hm z.symm)] at h1
        exact q3 m c' h2 h1 }
    fz := R.fz
    own := fun i d h => by
      obtain ⟨h1, h2, h3, h4, h5⟩ := R.own i d h
      exact ⟨h1, h2, h3, h4.le (LeH.refl _) (LeA.refl _) (upd_ne fun z => h3 (by rw [z]; exact mem)), h5⟩
    lng := R.lng
    inj := R.inj }
theorem getElem?_set_slot {ρ : Env'} {i j : Nat} {x y : Slot} (h : (ρ.set i x)[j]? = some y) : (i = j ∧ i < ρ.length ∧ y = x) ∨ (i ≠ j ∧ ρ[j]? = some y) := by
  by_cases e : i = j
  · subst e
    by_cases hl : i < ρ.length
    · rw [List.getElem?_set_self hl] at h; cases h; exact .inl ⟨rfl, hl, rfl⟩
    · rw [List.getElem?_eq_none (by rw [List.length_set]; omega)] at h; cases h
  · rw [List.getElem?_set_ne e] at h; exact .inr ⟨e, h⟩
/-- a name's own container changed -/
theorem Rel.putOwn {i : Nat} {d' : D} (R : Rel p Pr ρ S F ι α σ H) (hi : ρ[i]? = some (.own d')) (hc : CRep p.K F ι (upd H (α i) o) (α i) d) : Rel p Pr (ρ.set i (.own d)) S F ι α σ (upd H (α i) o) := by
  obtain ⟨k1, k2, k3, k4, k5⟩ := R.own i d' hi
  exact {
    wd := {
      sub := fun b u e => by
        have hb : b ≠ α i := fun z => by rw [z, k2] at e; cases e
        rcases R.wd.sub b u e with h | ⟨k, ob, h⟩
        · exact .inl (by rw [upd_ne hb]; exact h)
        · exact .inr ⟨k, ob, by rw [upd_ne hb]; exact h⟩
      con := R.wd.con
      len := R.wd.len
      nd := R.wd.nd
      cell := fun m c' b h1 h2 => by
        obtain ⟨q1, q2⟩ := R.wd.cell m c' b h1 h2
        exact ⟨q1, q2.le (LeH.refl _) (LeA.refl _) (upd_ne fun z => k3 (by rw [← z]; exact List.mem_of_getElem? h2))⟩
      prot := fun b u h => by
        obtain ⟨q1, q2, q3⟩ := R.wd.prot b u h
        exact ⟨by rw [upd_ne fun z => by rw [z, k5] at h; cases h]; exact q1, q2, q3⟩ }
    fz := fun j e h => by
      rcases getElem?_set_slot h with ⟨_, _, z⟩ | ⟨_, h⟩
      · cases z
      · exact R.fz j e h
    own := fun j e h => by
      rcases getElem?_set_slot h with ⟨z, _, w⟩ | ⟨ne, h⟩
      · subst z; cases w
        exact ⟨k1, k2, k3, hc, k5⟩
      · obtain ⟨h1, h2, h3, h4, h5⟩ := R.own j e h
        exact ⟨h1, h2, h3, h4.le (LeH.refl _) (LeA.refl _) (upd_ne fun z => ne (R.inj _ _ _ _ h hi z).symm), h5⟩
    lng := by rw [List.length_set]; exact R.lng
    inj := fun j l e e' h1 h2 z => by
      rcases getElem?_set_slot h1 with ⟨z1, _, _⟩ | ⟨_, h1⟩
      · rcases getElem?_set_slot h2 with ⟨z2, _, _⟩ | ⟨_, h2⟩
        · rw [← z1, ← z2]
        · subst z1; exact R.inj _ _ _ _ hi h2 z
      · rcases getElem?_set_slot h2 with ⟨z2, _, _⟩ | ⟨_, h2⟩
        · subst z2; exact R.inj _ _ _ _ h1 hi z
        · exact R.inj _ _ _ _ h1 h2 z }
/-- a name gets a new container as its own -/
theorem Rel.setOwn {i : Nat} (R : Rel p Pr ρ S F ι α σ H) (f : Fr p Pr ρ F ι α H a d) : Rel p Pr (ρ.set i (.own d)) S F ι (fun j => if j = i then a else α j) (σ.set i (some (.ref a))) H where
  wd := R.wd
  fz := fun j e h => by
    rcases getElem?_set_slot h with ⟨_, _, z⟩ | ⟨ne, h⟩
    · cases z
    · rw [List.getElem?_set_ne ne]; exact R.fz j e h
  own := fun j e h => by
    rcases getElem?_set_slot h with ⟨z, hl, w⟩ | ⟨ne, h⟩
    · subst z; cases w
      rw [if_pos rfl, List.getElem?_set_self (Nat.lt_of_lt_of_le hl R.lng)]
      exact ⟨rfl, f.nf, f.ni, f.rep, f.np⟩
    · rw [List.getElem?_set_ne ne, if_neg (fun z => ne z.symm)]; exact R.own j e h
  lng := by rw [List.length_set, List.length_set]; exact R.lng
  inj := fun j l e e' h1 h2 z => by
    rcases getElem?_set_slot h1 with ⟨z1, _, _⟩ | ⟨n1, h1⟩
    · rcases getElem?_set_slot h2 with ⟨z2, _, _⟩ | ⟨n2, h2⟩
      · rw [← z1, ← z2]
      · rw [if_pos z1.symm, if_neg (fun y => n2 y.symm)] at z
        exact absurd z.symm (f.no l _ h2)
    · rcases getElem?_set_slot h2 with ⟨z2, _, _⟩ | ⟨n2, h2⟩
      · rw [if_pos z2.symm, if_neg (fun y => n1 y.symm)] at z
        exact absurd z (f.no j _ h1)
      · rw [if_neg (fun y => n1 y.symm), if_neg (fun y => n2 y.symm)] at z
        exact R.inj _ _ _ _ h1 h2 z
/-- a name gets a value -/
theorem Rel.setFz {i : Nat} {v : V} (R : Rel p Pr ρ S F ι α σ H) (r : Rep p.K F ι v d) : Rel p Pr (ρ.set i (.fz d)) S F ι α (σ.set i (some v)) H where
  wd := R.wd
  fz := fun j e h => by
    rcases getElem?_set_slot h with ⟨z, hl, w⟩ | ⟨ne, h⟩
    · subst z; cases w
      exact ⟨v, by rw [List.getElem?_set_self (Nat.lt_of_lt_of_le hl R.lng)], r⟩
    · rw [List.getElem?_set_ne ne]; exact R.fz j e h
  own := fun j e h => by
    rcases getElem?_set_slot h with ⟨_, _, z⟩ | ⟨ne, h⟩
    · cases z
    · rw [List.getElem?_set_ne ne]; exact R.own j e h
  lng := by rw [List.length_set, List.length_set]; exact R.lng
  inj := fun j l e e' h1 h2 z => by
    rcases getElem?_set_slot h1 with ⟨_, _, z1⟩ | ⟨n1, h1⟩
    · cases z1
    · rcases getElem?_set_slot h2 with ⟨_, _, z2⟩ | ⟨n2, h2⟩
      · cases z2
      · exact R.inj _ _ _ _ h1 h2 z
/-- less is protected -/
theorem Rel.weak {Pr' : Hp} (R : Rel p Pr' ρ S F ι α σ H) (h : ∀ b o, Pr b = some o → Pr' b = some o) : Rel p Pr ρ S F ι α σ H where
  wd := { sub := R.wd.sub, con := R.wd.con, len := R.wd.len, nd := R.wd.nd, cell := R.wd.cell, prot := fun b u q => R.wd.prot b u (h b u q) }
  fz := R.fz
  own := fun i d k => by
    obtain ⟨h1, h2, h3, h4, h5⟩ := R.own i d k
    refine ⟨h1, h2, h3, h4, ?_⟩
    cases q : Pr (α i) with
    | none => rfl
    | some u => rw [h _ _ q] at h5; cases h5
  lng := R.lng
  inj := R.inj
end
section
variable {p : Pg} {N : List Str} {sc : Scope} {fn : Str → Bool} {k : Nat} {X : Cx} {G : Fns} {ρ : Env'} {S : Store} {e ea eb ec : Expr} {pos : Pos} {a b c : Ex}
theorem fe_of_fn {r : Option (D × Store)} (h : FN p X ρ S e r) : FE p X ρ S e r := by
  intro Pr F ι α σ H R d S' er Q q
  refine h Pr F ι α σ H R d S' er Q fun c F' ι' H' R' l m f => ?_
  obtain ⟨F2, R2, l2, r2⟩ := R'.freeze f
  exact q _ F2 ι' H' R2 (l.trans l2) m r2
theorem fn_list {es : List Expr} {as : Ar} (ha : FA p X ρ S es (evA G as ρ S)) : FN p X ρ S (.List es pos) (evE G (.list as) ρ S) := by
  intro Pr F ι α σ H R d S' e Q q
  rw [evE] at e
  obtain ⟨⟨us, S1⟩, e1, e⟩ := Option.bind_eq_some_iff.mp e
  split at e
  · rename_i hz
    cases e
    refine wE_of (pe_lst paW) (ha Pr F ι α σ H R _ _ e1 _ fun vs F' ι' H' R' l m rs => ⟨by rw [rs.length]; exact hz, fun c hc => ?_⟩)
    obtain ⟨R2, f2⟩ := R'.alloc (d := .lst us) (o := .lst vs) hc fun G g => ⟨vs, g, rs⟩
    exact q c F' ι' _ R2 l m f2
  · cases e
theorem fn_dnew {t : Bool} : FN p X ρ S (.Dict [] [] pos) (evE G (.dnew t) ρ S) := by
  intro Pr F ι α σ H R d S' e Q q
  rw [evE] at e
  cases e
  cases t with
  | true =>
    refine wE_of pe_dnewT fun c hc => ?_
    obtain ⟨R2, f2⟩ := R.alloc (d := .dT []) (o := .dT []) hc fun G g => ⟨[], g, rfl, .nil⟩
    exact q c F ι _ R2 (LeH.refl _) (LeA.refl _) f2
  | false =>
    refine wE_of pe_dnewK fun c hc => ?_
    obtain ⟨R2, f2⟩ := R.alloc (d := .dK []) (o := .dK []) hc fun G g => ⟨[], g, rfl, .nil⟩
    exact q c F ι _ R2 (LeH.refl _) (LeA.refl _) f2
/-- a slice's bound -/
def FO (p : Pg) (X : Cx) (ρ : Env') (o : Option Expr) (ev : Store → Option (List D × Store)) : Prop := ∃ t, PO X o t ∧ ∀ {S : Store} {Pr F ι α σ H}, Rel p Pr ρ S F ι α σ H → ∀ {ds S'}, ev S = some (ds, S') → ∀ {r}, ixO ds = some r →
  ∀ Q : Option Int → Hp → Prop, (∀ F' ι' H', Rel p Pr ρ S' F' ι' α σ H' → LeH F F' → LeA ι ι' → Q r H') → t σ H Q
theorem fo_none : FO p X ρ none (evA G .nil ρ) := by
  refine ⟨_, po_none, fun {S Pr F ι α σ H} R ds S' e r er Q q => ?_⟩
  rw [evA] at e; cases e; cases er
  exact q F ι H R (LeH.refl _) (LeA.refl _)
theorem fo_some (h : ∀ S, FE p X ρ S e (evE G a ρ S)) : FO p X ρ (some e) (evA G (.cons a .nil) ρ) := by
  refine ⟨_, po_some (peW (e := e)), fun {S Pr F ι α σ H} R ds S' e r er Q q => ?_⟩
  rw [evA] at e
  obtain ⟨⟨x1, S1⟩, h1, h2⟩ := Option.bind_eq_some_iff.mp e
  obtain ⟨⟨x2, S2⟩, h3, h4⟩ := Option.map_eq_some_iff.mp h2
  rw [evA] at h3; cases h3
  cases h4
  cases x1 <;> try cases er
  exact h S Pr F ι α σ H R _ _ h1 _ fun v F' ι' H' R' l m rv => by cases rv; exact ⟨_, rfl, q F' ι' H' R' l m⟩
theorem fe_sl {eo : Expr} {lo hi : Option Expr} {al ah : Ar} {p2 : Pos} (g : Good p N sc fn k X) (ha : FH p X ρ S eo (hOf a ρ S (evE G a ρ S))) (hl : FO p X ρ lo (evA G al ρ)) (hh : FO p X ρ hi (evA G ah ρ)) :
    FE p X ρ S (.Subscript eo (.Slice lo hi none p2) pos) (evE G (.sl a al ah) ρ S) := by
  intro Pr F ι α σ H R d S' e Q q
  rw [evE] at e
  obtain ⟨⟨h1, S1⟩, e1, e⟩ := Option.bind_eq_some_iff.mp e
  obtain ⟨⟨y, S2⟩, e2, e⟩ := Option.bind_eq_some_iff.mp e
  obtain ⟨⟨z, S3⟩, e3, e⟩ := Option.bind_eq_some_iff.mp e
  obtain ⟨u, e4, e⟩ := Option.bind_eq_some_iff.mp e
  obtain ⟨lo', e7, e⟩ := Option.bind_eq_some_iff.mp e
  obtain ⟨hi', e8, e⟩ := Option.bind_eq_some_iff.mp e
  obtain ⟨d', e5, e6⟩ := Option.map_eq_some_iff.mp e
  cases e6
  obtain ⟨tl, pl, hl⟩ := hl
  obtain ⟨th, ph, hh⟩ := hh
  have hK := g.K
  have run : ∀ r, SlR X r → (∀ x F3 ι3 H3, Rel p Pr ρ S3 F3 ι3 α σ H3 → LeH F F3 → LeA ι ι3 → HRep p F3 ι3 α x h1 → r x lo' hi' H3 Q) → wE X (.Subscript eo (.Slice lo hi none p2) pos) σ H Q := fun r hr hq =>
    wE_of (pe_slice hr peW pl ph) (ha Pr F ι α σ H R _ _ e1 _ fun x F1 ι1 H1 R1 l1 m1 r1 => hl R1 e2 e7 _ fun F2 ι2 H2 R2 l2 m2 => hh R2 e3 e8 _ fun F3 ι3 H3 R3 l3 m3 =>
      hq x F3 ι3 H3 R3 ((l1.trans l2).trans l3) ((m1.trans m2).trans m3) ((r1.le l2 m2).le l3 m3))
  have fin : ∀ x F3 ι3 H3, Rel p Pr ρ S3 F3 ι3 α σ H3 → LeH F F3 → LeA ι ι3 → HRep p F3 ι3 α x h1 → rSlL X.K x lo' hi' H3 Q ∨ rSlA X.K x lo' hi' H3 Q ∨ rSlS x lo' hi' H3 Q := fun x F3 ι3 H3 R3 l m r => by
    have cw := cw_of R3 r e4
    refine sl_ok g.pg R3.wd.sub cw.cv ?_ e5 fun z F4 H4 gr rz => q z F4 ι3 H4 (R3.grow gr) (l.trans gr.f) m rz
    cases u <;> first | exact .inl (cw.rep rfl) | exact .inr (fun _ h => nomatch h)
  exact run _ (SlR.or sl_list (SlR.or sl_tupA sl_str)) fin
theorem fe_rev {kk : Nat} {p1 p2 p3 : Pos} (g : Good p N sc fn k X) (ha : FH p X ρ S ea (hOf a ρ S (evE G a ρ S))) : FE p X ρ S (.Subscript ea (.Slice none none (some (.UnaryOp .USub (.Constant (.int 1) kk p1) p2)) p3) pos) (evE G (.rev a) ρ S) := by
  intro Pr F ι α σ H R d S' e Q q
  rw [evE] at e
  obtain ⟨⟨h1, S1⟩, e1, e⟩ := Option.bind_eq_some_iff.mp e
  obtain ⟨u, e4, e⟩ := Option.bind_eq_some_iff.mp e
  cases u <;> try cases e
  refine wE_of (pe_revL peW) (ha Pr F ι α σ H R _ _ e1 _ fun x F1 ι1 H1 R1 l1 m1 r1 => ?_)
  obtain ⟨c, vs, hx, q1, q2⟩ := cv_of R1 r1 e4
  refine ⟨c, vs, hx, by rw [g.K]; exact q1, fun y hy => ?_⟩
  exact newL R1.wd.sub q2.rev hy fun z F2 H2 gr rz => q z F2 ι1 H2 (R1.grow gr) (l1.trans gr.f) m1 rz
structure FldOk (p : Pg) (G : Fns) : Prop where
  fld : ∀ C f Ca, G.fld C f = true → p.cls C = some Ca → Cls p.K Ca ∧ NoAttr p.K Ca f
theorem fs_lookup {K : PySem.W.Frag} {F : Hp} {ι : List Addr} {f : Str} {d : D} : ∀ {fv : List (Str × V)} {fs : List (Str × D)}, fv.map (·.1) = fs.map (·.1) → Reps K F ι (fv.map (·.2)) (fs.map (·.2)) → fs.lookup f = some d → ∃ v, fv.lookup f = some v ∧ Rep K F ι v d
  | [], [], _, _, h => by cases h
  | [], _ :: _, e, _, _ => by cases e
  | _ :: _, [], e, _, _ => by cases e
  | (g, v) :: fv, (g', d') :: fs, e, r, h => by
    simp only [List.map_cons, List.cons.injEq] at e
    obtain ⟨e1, e2⟩ := e
    subst e1
    cases r with
    | cons r1 r2 =>
      simp only [List.lookup_cons] at h ⊢
      cases hb : f == g with
      | true => rw [hb] at h; cases h; exact ⟨v, rfl, r1⟩
      | false => rw [hb] at h; exact fs_lookup e2 r2 h
theorem fs_none {f : Str} : ∀ {fv : List (Str × V)} {fs : List (Str × D)}, fv.map (·.1) = fs.map (·.1) → (fs.lookup f).isNone = true → fv.lookup f = none
  | [], [], _, _ => rfl
  | [], _ :: _, e, _ => by cases e
  | _ :: _, [], e, _ => by cases e
  | (g, v) :: fv, (g', d') :: fs, e, h => by
    simp only [List.map_cons, List.cons.injEq] at e
    obtain ⟨e1, e2⟩ := e
    subst e1
    simp only [List.lookup_cons] at h ⊢
    cases hb : f == g with
    | true => rw [hb] at h; cases h
    | false => rw [hb] at h; exact fs_none e2 h
theorem fe_fld {f : Str} (g : Good p N sc fn k X) (gf : FldOk p G) (hb : attributeBase ea f X.env (eval ea X.env) = eval ea X.env) (ha : FE p X ρ S ea (evE G a ρ S)) : FE p X ρ S (.Attribute ea f pos) (evE G (.fld a f) ρ S) := by
  intro Pr F ι α σ H R d S' e Q q
  rw [evE] at e
  obtain ⟨⟨u, S1⟩, e1, e⟩ := Option.bind_eq_some_iff.mp e
  cases u <;> try cases e
  rename_i n
  simp only at e
  split at e
  · rename_i C fs hc
    split at e
    · rename_i hf
      obtain ⟨d', e2, e3⟩ := Option.map_eq_some_iff.mp e
      cases e3
      refine wE_of (pe_fld peW hb) (ha Pr F ι α σ H R _ _ e1 _ fun x F1 ι1 H1 R1 l1 m1 r1 => ?_)
      obtain ⟨b, hb1, _, Ca, dx, fv, h1, h2, h3, h4⟩ := R1.wd.at hc
      cases r1 with
      | ref hn =>
        rw [hb1] at hn; cases hn
        obtain ⟨v, e5, rv⟩ := fs_lookup h3 h4 e2
        obtain ⟨c1, c2⟩ := gf.fld C f Ca hf h1
        rw [← g.K] at c1 c2
        exact ⟨b, Ca, dx, fv, v, rfl, h2, c1, c2, e5, q v F1 ι1 H1 R1 l1 m1 rv⟩
    · cases e
  · cases e
theorem isD_of {F : Hp} {ι : List Addr} {H : Hp} {x : V} {u : D} (h : CV p F ι H x u) (d : isDct (some u) = true) : ∃ a, x = .ref a ∧ IsD H a := by
  cases u <;> try cases d
  · obtain ⟨a, kvs, rfl, q, _⟩ := h; exact ⟨a, rfl, .inl ⟨kvs, q⟩⟩
  · obtain ⟨a, kvs, rfl, q, _⟩ := h; exact ⟨a, rfl, .inr ⟨kvs, q⟩⟩
theorem fe_get {apos : Pos} (g : Good p N sc fn k X) (m : M1 X ea "get" apos eb pos) (ha : FH p X ρ S ea (hOf a ρ S (evE G a ρ S))) (hb : ∀ S, FE p X ρ S eb (evE G b ρ S)) : FE p X ρ S (.Call (.Attribute ea "get" apos) [eb] [] pos) (evE G (.get a b) ρ S) := by
  intro Pr F ι α σ H R d S' e Q q
  rw [evE] at e
  obtain ⟨⟨h1, S1⟩, e1, e⟩ := Option.bind_eq_some_iff.mp e
  split at e
  · rename_i hd
    obtain ⟨⟨y, S2⟩, e2, e⟩ := Option.bind_eq_some_iff.mp e
    obtain ⟨u, e3, e⟩ := Option.bind_eq_some_iff.mp e
    obtain ⟨o, e4, e5⟩ := Option.map_eq_some_iff.mp e
    cases e5
    have hu : X.A.units + 1 < cLine := by have := g.units; omega
    refine wE_of (pe_dget1 hu peW peW m) (ha Pr F ι α σ H R _ _ e1 _ fun x F1 ι1 H1 R1 l1 m1 r1 => ?_)
    cases hc : cont ρ S1 h1 with
    | none => rw [hc] at hd; cases hd
    | some u0 =>
    rw [hc] at hd
    obtain ⟨c, rfl, hI⟩ := isD_of (cv_of R1 r1 hc) hd
    refine ⟨c, rfl, hI, hb S1 Pr F1 ι1 α σ H1 R1 _ _ e2 _ fun y' F2 ι2 H2 R2 l2 m2 r2 => ?_⟩
    have hy : ∀ n, y ≠ .ref n := fun n z => by subst z; cases u <;> simp [dget, keyK, keyT] at e4
    obtain ⟨a', o', ea', g1, _, g3⟩ := dget_ok (cv_of R2 (r1.le l2 m2) e3) (.of_rep R2.wd.sub r2 hy) e4
    cases ea'
    refine ⟨o', g1, ?_⟩
    rcases g3 with ⟨rfl, rfl⟩ | ⟨d', v', rfl, rfl, r3⟩
    · exact q _ F2 ι2 H2 R2 (l1.trans l2) (m1.trans m2) .non
    · exact q _ F2 ι2 H2 R2 (l1.trans l2) (m1.trans m2) r3
  · cases e
theorem fe_getd {apos : Pos} (g : Good p N sc fn k X) (m : M2 X ea "get" apos eb ec pos) (ha : FH p X ρ S ea (hOf a ρ S (evE G a ρ S))) (hb : ∀ S, FE p X ρ S eb (evE G b ρ S)) (hc : ∀ S, FE p X ρ S ec (evE G c ρ S)) : FE p X ρ S (.Call (.Attribute ea "get" apos) [eb, ec] [] pos) (evE G (.getd a b c) ρ S) := by
  intro Pr F ι α σ H R d S' e Q q
  rw [evE] at e
  obtain ⟨⟨h1, S1⟩, e1, e⟩ := Option.bind_eq_some_iff.mp e
  split at e
  · rename_i hd
    obtain ⟨⟨y, S2⟩, e2, e⟩ := Option.bind_eq_some_iff.mp e
    obtain ⟨⟨w, S3⟩, e6, e⟩ := Option.bind_eq_some_iff.mp e
    obtain ⟨u, e3, e⟩ := Option.bind_eq_some_iff.mp e
    obtain ⟨o, e4, e5⟩ := Option.map_eq_some_iff.mp e
    cases e5
    have hu : X.A.units + 1 < cLine := by have := g.units; omega
    refine wE_of (pe_dget2 hu peW peW peW m) (ha Pr F ι α σ H R _ _ e1 _ fun x F1 ι1 H1 R1 l1 m1 r1 => ?_)
    cases hcc : cont ρ S1 h1 with
    | none => rw [hcc] at hd; cases hd
    | some u0 =>
    rw [hcc] at hd
    obtain ⟨cc, rfl, hI⟩ := isD_of (cv_of R1 r1 hcc) hd
    refine ⟨cc, rfl, hI, hb S1 Pr F1 ι1 α σ H1 R1 _ _ e2 _ fun y' F2 ι2 H2 R2 l2 m2 r2 => hc S2 Pr F2 ι2 α σ H2 R2 _ _ e6 _ fun w' F3 ι3 H3 R3 l3 m3 r3 => ?_⟩
    have hy : ∀ n, y ≠ .ref n := fun n z => by subst z; cases u <;> simp [dget, keyK, keyT] at e4
    obtain ⟨a', o', ea', g1, _, g3⟩ := dget_ok (cv_of R3 ((r1.le l2 m2).le l3 m3) e3) (.of_rep R3.wd.sub (r2.le l3 m3) hy) e4
    cases ea'
    refine ⟨o', g1, ?_⟩
    rcases g3 with ⟨rfl, rfl⟩ | ⟨d', v', rfl, rfl, r4⟩
    · exact q _ F3 ι3 H3 R3 ((l1.trans l2).trans l3) ((m1.trans m2).trans m3) r3
    · exact q _ F3 ι3 H3 R3 ((l1.trans l2).trans l3) ((m1.trans m2).trans m3) r4
  · cases e
theorem fe_mref (ha : FN p X ρ S ea (evE G a ρ S)) : FE p X ρ S ea (evE G (.mref a) ρ S) := by
  intro Pr F ι α σ H R d S' e Q q
  rw [evE] at e
  obtain ⟨⟨u, S1⟩, e1, e⟩ := Option.bind_eq_some_iff.mp e
  refine ha Pr F ι α σ H R _ _ e1 _ fun c F1 ι1 H1 R1 l1 m1 f1 => ?_
  obtain ⟨R2, at2⟩ := R1.addCell f1
  cases u <;> simp only [newRef] at e <;> first
    | (cases e; exact q _ F1 (ι1 ++ [c]) H1 R2 l1 (m1.trans (LeA.app _ _)) (.ref at2))
    | (cases e)
end
end Z

set_option Elab.async false
set_option linter.all false
set_option maxRecDepth 100000
set_option maxHeartbeats 4000000
namespace Z
open PySem PySem.Spec PyProof.Rows L2

/-! # what is walked -/
def NoFz (X : Cx) (d : Addr) : Prop := ∀ o' u', X.H_0 d ≠ some (.frz o' u')
def Unl (X : Cx) (P : Hp → Prop) (H : Hp) : Prop := P H ∨ ∃ d od u, H d = some (.frz od u) ∧ NoFz X d ∧ P (upd H d u)
def wI (X : Cx) (tg iter : Expr) : TI := fun σ H R => ∀ pins s, Inv X pins σ H s → wpAny (model X.prog X.w) X.A (eval iter X.env) (fun v s1 => wpAny (model X.prog X.w) X.A (pyIter v) (PIE X pins σ tg R) X.xe s1) X.xe s
section
variable {X : Cx} {e tg iter : Expr} {st : Stmt} {σ : L2.St} {H : Hp}
theorem piW : PI X tg iter (wI X tg iter) := ⟨fun pins s _ _ _ I h => h pins s I⟩
theorem wI_of {t : TI} {R : L2.It → Hp → Prop} (h : PI X tg iter t) (q : t σ H R) : wI X tg iter σ H R := fun pins s I => h.run pins s σ H R I q
theorem wE_lock {Q : VK} (h : wE X e σ H fun x H1 => Q x H1 ∨ ∃ d u, H1 d = some u ∧ Mut (some u) ∧ ∀ od, NoFz X d → Q x (upd H1 d (.frz od u))) : wE X e σ H Q := by
  intro pins s I
  refine thn (h pins s I) fun v s1 ⟨x, H1, I1, r, q⟩ => ?_
  rcases q with q | ⟨d, u, hd, mu, q⟩
  · exact ⟨x, H1, I1, r, q⟩
  · obtain ⟨od, I2⟩ := I1.lock hd mu
    exact ⟨x, _, I2, r, q od (I1.nofrz hd mu)⟩
theorem wE_unl {Q : VK} (h : wE X e σ H fun x H1 => Unl X (Q x) H1) : wE X e σ H Q := by
  intro pins s I
  refine thn (h pins s I) fun v s1 ⟨x, H1, I1, r, q⟩ => ?_
  rcases q with q | ⟨d, od, u, hd, nf, q⟩
  · exact ⟨x, H1, I1, r, q⟩
  · exact ⟨x, _, I1.unlock hd nf, r, q⟩
theorem wS_unl {D : Ends} (h : wS X st ⟨fun σ' => Unl X (D.nx σ'), fun v => Unl X (D.rt v), fun σ' => Unl X (D.bk σ'), fun σ' => Unl X (D.ct σ')⟩ σ H) : wS X st D σ H := by
  intro pins s I
  refine thn (h pins s I) fun fl s1 q => ?_
  cases fl with
  | next =>
    obtain ⟨σ', H', I2, q | ⟨d, od, u, hd, nf, q⟩⟩ := q
    · exact ⟨σ', H', I2, q⟩
    · exact ⟨σ', _, I2.unlock hd nf, q⟩
  | brk =>
    obtain ⟨σ', H', I2, q | ⟨d, od, u, hd, nf, q⟩⟩ := q
    · exact ⟨σ', H', I2, q⟩
    · exact ⟨σ', _, I2.unlock hd nf, q⟩
  | cont =>
    obtain ⟨σ', H', I2, q | ⟨d, od, u, hd, nf, q⟩⟩ := q
    · exact ⟨σ', H', I2, q⟩
    · exact ⟨σ', _, I2.unlock hd nf, q⟩
  | ret v =>
    obtain ⟨x, σ', H', I2, r, q | ⟨d, od, u, hd, nf, q⟩⟩ := q
    · exact ⟨x, σ', H', I2, r, q⟩
    · exact ⟨x, σ', _, I2.unlock hd nf, r, q⟩
end
def lkP (Pr : Hp) : Option (Addr × HO) → Hp
  | none => Pr
  | some (a, o) => upd Pr a o
def LkOk (H : Hp) : Option (Addr × HO) → Prop
  | none => True
  | some (a, o) => H a = some o
structure Walk (p : Pg) (J : L2.It) (F0 : Hp) (ι0 : List Addr) (v : V) (u : D) (xs : List D) (Lk : Option (Addr × HO)) : Prop where
  step : ∀ {i : Nat} {d : D}, xs[i]? = some d → ∀ {Pr S F ι H}, Wd p Pr S F ι H → LeH F0 F → LeA ι0 ι → CV p F ι H v u → LkOk H Lk → J.go i H ∧ ∀ x H', J.yld i H x H' → ∃ F', Grow F H F' H' ∧ Rep p.K F' ι x d
  stop : ∀ {Pr S F ι H}, Wd p Pr S F ι H → LeH F0 F → LeA ι0 ι → CV p F ι H v u → LkOk H Lk → J.stop xs.length H
def FreeOk (X : Cx) (p : Pg) (Pr : Hp) (Lk : Option (Addr × HO)) (lk : Option (Nat × D)) (F : Hp) (ι : List Addr) : Prop :=
  ∀ {ρ' S' F' ι' α' σ' H' S''}, Rel p (lkP Pr Lk) ρ' S' F' ι' α' σ' H' → LeH F F' → LeA ι ι' → freeS S' lk = some S'' → ∃ H3, Rel p Pr ρ' S'' F' ι' α' σ' H3 ∧ (∀ b o, H' b = some o → (∀ ob u, o ≠ .frz ob u) → H3 b = some o) ∧ ∀ P : Hp → Prop, P H3 → Unl X P H'
def FI (p : Pg) (X : Cx) (ρ : Env') (S : Store) (tg iter : Expr) (r : Option (Hd × List D × Store)) : Prop :=
  ∀ Pr F ι α σ H, Rel p Pr ρ S F ι α σ H → ∀ w xs S1, r = some (w, xs, S1) → ∀ S2 lk, lockS ρ S1 w = some (S2, lk) → ∀ R : L2.It → Hp → Prop,
    (∀ J v u Lk F' ι' H', Rel p (lkP Pr Lk) ρ S2 F' ι' α σ H' → LeH F F' → LeA ι ι' → HRep p F' ι' α v w → cont ρ S2 w = some u → Walk p J F' ι' v u xs Lk → FreeOk X p Pr Lk lk F' ι' → (∀ b o, Pr b = some o → lkP Pr Lk b = some o) → R J H') → wI X tg iter σ H R
section
variable {p : Pg} {Pr : Hp} {ρ : Env'} {S : Store} {F : Hp} {ι : List Addr} {α : Nat → Addr} {σ : L2.St} {H : Hp} {a : Addr} {d : D} {o : HO}
theorem Rel.lk (R : Rel p (lkP Pr (some (a, o))) ρ S F ι α σ H) : LkOk H (some (a, o)) := (R.wd.prot a o upd_same).1
theorem Rel.lkOk {Lk : Option (Addr × HO)} (R : Rel p (lkP Pr Lk) ρ S F ι α σ H) : LkOk H Lk := by
  cases Lk with
  | none => trivial
  | some q => exact R.lk
/-- one thing more is protected -/
theorem Rel.guard (R : Rel p Pr ρ S F ι α σ H) (h : H a = some o) (l : F a = none ∨ Loose o) (c : ∀ (n : Nat) (c : Cell), ι[n]? = some a → S[n]? = some c → ∃ d, c = .lck d) (n : ∀ j e, ρ[j]? = some (.own e) → α j ≠ a) : Rel p (upd Pr a o) ρ S F ι α σ H where
  wd := {
    sub := R.wd.sub
    con := R.wd.con
    len := R.wd.len
    nd := R.wd.nd
    cell := R.wd.cell
    prot := fun b u q => by
      by_cases hb : b = a
      · subst hb; rw [upd_same] at q; cases q; exact ⟨h, l, c⟩
      · rw [upd_ne hb] at q; exact R.wd.prot b u q }
  fz := R.fz
  own := fun i d k => by
    obtain ⟨h1, h2, h3, h4, h5⟩ := R.own i d k
    exact ⟨h1, h2, h3, h4, by rw [upd_ne (n i d k)]; exact h5⟩
  lng := R.lng
  inj := R.inj
/-- a kept dict is locked for good -/
theorem Rel.lockF {od : Obj} (R : Rel p Pr ρ S F ι α σ H) (f : F a = some o) (k : (∃ kvs, o = .dK kvs) ∨ ∃ kvs, o = .dT kvs) (h : H a = some o) : Rel p Pr ρ S F ι α σ (upd H a (.frz od o)) where
  wd := {
    sub := fun b u e => by
      by_cases hb : b = a
      · subst hb; rw [f] at e; cases e; exact .inr ⟨k, od, upd_same⟩
      · rcases R.wd.sub b u e with q | ⟨k', ob, q⟩
        · exact .inl (by rw [upd_ne hb]; exact q)
        · exact .inr ⟨k', ob, by rw [upd_ne hb]; exact q⟩
    con := R.wd.con
    len := R.wd.len
    nd := R.wd.nd
    cell := fun n c b h1 h2 => by
      obtain ⟨q1, q2⟩ := R.wd.cell n c b h1 h2
      exact ⟨q1, q2.le (LeH.refl _) (LeA.refl _) (upd_ne fun z => by rw [z, f] at q1; cases q1)⟩
    prot := fun b u q => by
      obtain ⟨q1, q2, q3⟩ := R.wd.prot b u q
      refine ⟨?_, q2, q3⟩
      rw [upd_ne]
      · exact q1
      · intro z
        subst z
        rw [h] at q1; cases q1
        rcases q2 with q2 | q2
        · rw [f] at q2; cases q2
        · rcases k with ⟨kvs, rfl⟩ | ⟨kvs, rfl⟩ <;> exact q2 }
  fz := R.fz
  own := fun i d k => by
    obtain ⟨h1, h2, h3, h4, h5⟩ := R.own i d k
    exact ⟨h1, h2, h3, h4.le (LeH.refl _) (LeA.refl _) (upd_ne fun z => by rw [z, f] at h2; cases h2), h5⟩
  lng := R.lng
  inj := R.inj
def DObj (K : PySem.W.Frag) (F : Hp) (ι : List Addr) (o : HO) : D → Prop
  | .dK es => ∃ kvs, o = .dK kvs ∧ kvs.map (·.1) = es.map (·.1) ∧ Reps K F ι (kvs.map (·.2)) (es.map (·.2))
  | .dT es => ∃ kvs, o = .dT kvs ∧ kvs.map (·.1) = es.map (·.1) ∧ Reps K F ι (kvs.map (·.2)) (es.map (·.2))
  | _ => False
theorem DObj.le {K : PySem.W.Frag} {F F' : Hp} {ι ι' : List Addr} {u : D} (l : LeH F F') (m : LeA ι ι') (h : DObj K F ι o u) : DObj K F' ι' o u := by
  cases u <;> simp only [DObj] at h ⊢
  · obtain ⟨kvs, h1, h2, h3⟩ := h; exact ⟨kvs, h1, h2, h3.le l m⟩
  · obtain ⟨kvs, h1, h2, h3⟩ := h; exact ⟨kvs, h1, h2, h3.le l m⟩
theorem DObj.c {K : PySem.W.Frag} {u : D} (h : DObj K F ι o u) {G : Hp} (g : G a = some o) : CRep K F ι G a u := by
  cases u <;> simp only [DObj] at h
  · obtain ⟨kvs, rfl, h2, h3⟩ := h; exact ⟨kvs, g, h2, h3⟩
  · obtain ⟨kvs, rfl, h2, h3⟩ := h; exact ⟨kvs, g, h2, h3⟩
theorem DObj.l {K : PySem.W.Frag} {u : D} (h : DObj K F ι o u) {G : Hp} {od : Obj} (g : G a = some (.frz od o)) : LRep K F ι G a u := by
  cases u <;> simp only [DObj] at h
  · obtain ⟨kvs, rfl, h2, h3⟩ := h; exact ⟨od, kvs, g, h2, h3⟩
  · obtain ⟨kvs, rfl, h2, h3⟩ := h; exact ⟨od, kvs, g, h2, h3⟩
theorem DObj.mut {K : PySem.W.Frag} {u : D} (h : DObj K F ι o u) : Mut (some o) ∧ ((∃ kvs, o = .dK kvs) ∨ ∃ kvs, o = .dT kvs) := by
  cases u <;> simp only [DObj] at h
  · obtain ⟨kvs, rfl, h2, h3⟩ := h; exact ⟨trivial, .inl ⟨_, rfl⟩⟩
  · obtain ⟨kvs, rfl, h2, h3⟩ := h; exact ⟨trivial, .inr ⟨_, rfl⟩⟩
theorem dobj_c {K : PySem.W.Frag} {u : D} (d : isDct (some u) = true) {G : Hp} (h : CRep K F ι G a u) : ∃ o, G a = some o ∧ DObj K F ι o u := by
  cases u <;> try cases d
  · obtain ⟨kvs, g, h2, h3⟩ := h; exact ⟨_, g, kvs, rfl, h2, h3⟩
  · obtain ⟨kvs, g, h2, h3⟩ := h; exact ⟨_, g, kvs, rfl, h2, h3⟩
theorem dobj_l {K : PySem.W.Frag} {u : D} (d : isDct (some u) = true) {G : Hp} (h : LRep K F ι G a u) : ∃ od o, G a = some (.frz od o) ∧ DObj K F ι o u := by
  cases u <;> try cases d
  · obtain ⟨od, kvs, g, h2, h3⟩ := h; exact ⟨_, _, g, kvs, rfl, h2, h3⟩
  · obtain ⟨od, kvs, g, h2, h3⟩ := h; exact ⟨_, _, g, kvs, rfl, h2, h3⟩
theorem dobj_f {K : PySem.W.Frag} {u : D} {x : V} (d : isDct (some u) = true) (h : Rep K F ι x u) : ∃ a o, x = .ref a ∧ F a = some o ∧ DObj K F ι o u := by
  cases u <;> try cases d
  · cases h with
    | dK e k r => exact ⟨_, _, rfl, e, _, rfl, k, r⟩
  · cases h with
    | dT e k r => exact ⟨_, _, rfl, e, _, rfl, k, r⟩
/-- what stands behind the locking of a dict -/
def Lkd (X : Cx) (p : Pg) (Pr : Hp) (ρ : Env') (S2 : Store) (F : Hp) (ι : List Addr) (α : Nat → Addr) (σ : L2.St) (w : Hd) (u : D) (lk : Option (Nat × D)) (a : Addr) (od : Obj) (o : HO) (H' : Hp) : Prop :=
  Rel p (lkP Pr (some (a, .frz od o))) ρ S2 F ι α σ H' ∧ cont ρ S2 w = some u ∧ FreeOk X p Pr (some (a, .frz od o)) lk F ι ∧ ∀ b u, Pr b = some u → lkP Pr (some (a, .frz od o)) b = some u
theorem sub_same {od : Obj} (R : Rel p Pr ρ S F ι α σ H) (h : H a = some (.frz od o) ∨ Pr a = none) : ∀ b u, Pr b = some u → lkP Pr (some (a, .frz od o)) b = some u := by
  intro b u q
  by_cases hb : b = a
  · subst hb
    rcases h with h | h
    · rw [(R.wd.prot b u q).1] at h; cases h
      exact upd_same
    · rw [h] at q; cases q
  · show upd Pr a _ b = _
    rw [upd_ne hb]; exact q
theorem free_same {X : Cx} {od : Obj} (R : Rel p Pr ρ S F ι α σ H) (h : H a = some (.frz od o) ∨ Pr a = none) : FreeOk X p Pr (some (a, .frz od o)) none F ι := by
  intro ρ' S' F' ι' α' σ' H' S'' R' _ _ e
  cases e
  exact ⟨H', R'.weak (sub_same R h), fun b o q _ => q, fun P q => .inl q⟩
theorem lock_ok {X : Cx} {w : Hd} {u : D} {x : V} {S2 : Store} {lk : Option (Nat × D)} (R : Rel p Pr ρ S F ι α σ H) (r : HRep p F ι α x w) (c : cont ρ S w = some u) (hd : isDct (some u) = true) (e : lockS ρ S w = some (S2, lk)) :
    ∃ a o, x = .ref a ∧ DObj p.K F ι o u ∧ ((∃ od, H a = some (.frz od o) ∧ Lkd X p Pr ρ S2 F ι α σ w u lk a od o H) ∨ (H a = some o ∧ ∀ od, NoFz X a → Lkd X p Pr ρ S2 F ι α σ w u lk a od o (upd H a (.frz od o)))) := by
  cases w with
  | slot i =>
    simp only [cont] at c
    simp only [lockS] at e
    split at e
    · rename_i xs hi
      rw [hi] at c; cases c; cases hd
    · cases e
  | val v =>
    by_cases hr : ∃ n, v = .ref n
    · obtain ⟨n, rfl⟩ := hr
      cases (show Rep p.K F ι x (.ref n) from r) with
      | @ref n a hn =>
      simp only [cont] at c
      split at c
      · rename_i d' hc
        cases c
        obtain ⟨b, hb, hF, hcr⟩ := R.wd.at hc
        rw [hn] at hb; cases hb
        obtain ⟨o, ho, dob⟩ := dobj_c hd hcr
        refine ⟨a, o, rfl, dob, .inr ⟨ho, fun od nf => ?_⟩⟩
        have hp : Pr a = none := by
          cases q : Pr a with
          | none => rfl
          | some u =>
            obtain ⟨d, z⟩ := (R.wd.prot a u q).2.2 n _ hn hc
            cases z
        have e2 : S2 = S.set n (.lck u) ∧ lk = some (n, u) := by
          simp only [lockS, hc] at e
          cases u <;> try cases hd
          · cases e; exact ⟨rfl, rfl⟩
          · cases e; exact ⟨rfl, rfl⟩
        obtain ⟨rfl, rfl⟩ := e2
        have hl : n < S.length := (List.getElem?_eq_some_iff.mp hc).1
        have R2 := R.put (n := n) (c := .lck u) (o := .frz od o) hn hp (dob.l upd_same)
        refine ⟨R2.guard upd_same (.inr trivial) (fun m c h1 h2 => ?_) (fun j e hj z => ?_), ?_, ?_⟩
        · obtain ⟨l1, e1⟩ := List.getElem?_eq_some_iff.mp h1
          obtain ⟨l2, e2⟩ := List.getElem?_eq_some_iff.mp hn
          have : m = n := by
            rcases Nat.lt_trichotomy m n with y | y | y
            · exact absurd (e1.trans e2.symm) (List.pairwise_iff_getElem.mp R.wd.nd _ _ l1 l2 y)
            · exact y
            · exact absurd (e2.trans e1.symm) (List.pairwise_iff_getElem.mp R.wd.nd _ _ l2 l1 y)
          subst this
          rw [List.getElem?_set_self hl] at h2; cases h2
          exact ⟨_, rfl⟩
        · exact (R.own j e hj).2.2.1 (by rw [z]; exact List.mem_of_getElem? hn)
        · simp only [cont, List.getElem?_set_self hl]
        refine ⟨?_, sub_same R (.inr hp)⟩
        · intro ρ' S' F' ι' α' σ' H' S'' R' l m ef
          simp only [freeS] at ef
          split at ef
          · rename_i dd hcc
            cases ef
            have ha : H' a = some (.frz od o) := R'.lk
            have hp' : ∀ b u, Pr b = some u → upd Pr a (.frz od o) b = some u := fun b u q => by
              rw [upd_ne fun z => by rw [z, hp] at q; cases q]; exact q
            have R3 := R'.weak (Pr := Pr) hp'
            refine ⟨upd H' a o, R3.put (m _ _ hn) hp ((dob.le l m).c upd_same), fun b o' q hn => ?_, fun P q => .inr ⟨a, od, o, ha, nf, q⟩⟩
            rw [upd_ne fun z => by rw [z, ha] at q; cases q; exact hn _ _ rfl]
            exact q
          · cases ef
      · rename_i d' hc
        cases c
        obtain ⟨b, hb, hF, hcr⟩ := R.wd.at hc
        rw [hn] at hb; cases hb
        obtain ⟨od, o, ho, dob⟩ := dobj_l hd hcr
        have e2 : S2 = S ∧ lk = none := by
          simp only [lockS, hc] at e
          cases e; exact ⟨rfl, rfl⟩
        obtain ⟨rfl, rfl⟩ := e2
        refine ⟨a, o, rfl, dob, .inl ⟨od, ho, R.guard ho (.inr trivial) (fun m c h1 h2 => ?_) (fun j e hj z => ?_), ?_, free_same R (.inl ho), sub_same R (.inl ho)⟩⟩
        · obtain ⟨l1, e1⟩ := List.getElem?_eq_some_iff.mp h1
          obtain ⟨l2, e2⟩ := List.getElem?_eq_some_iff.mp hn
          have : m = n := by
            rcases Nat.lt_trichotomy m n with y | y | y
            · exact absurd (e1.trans e2.symm) (List.pairwise_iff_getElem.mp R.wd.nd _ _ l1 l2 y)
            · exact y
            · exact absurd (e2.trans e1.symm) (List.pairwise_iff_getElem.mp R.wd.nd _ _ l2 l1 y)
          subst this
          rw [hc] at h2; cases h2
          exact ⟨_, rfl⟩
        · exact (R.own j e hj).2.2.1 (by rw [z]; exact List.mem_of_getElem? hn)
        · simp only [cont, hc]
      · cases c
    · have hv : ∀ n, v ≠ .ref n := fun n z => hr ⟨n, z⟩
      rw [cont_val hv] at c
      cases c
      have e2 : S2 = S ∧ lk = none := by
        cases u <;> first | exact absurd rfl (hv _) | (simp only [lockS] at e; cases e; exact ⟨rfl, rfl⟩)
      obtain ⟨rfl, rfl⟩ := e2
      obtain ⟨a, o, rfl, hF, dob⟩ := dobj_f hd r
      obtain ⟨mu, kk⟩ := dob.mut
      have nocell : ∀ (n : Nat) (c : Cell), ι[n]? = some a → S2[n]? = some c → ∃ d, c = .lck d := fun n c h1 h2 => by
        have := (R.wd.cell n c a h2 h1).1
        rw [hF] at this; cases this
      have noown : ∀ j e, ρ[j]? = some (.own e) → α j ≠ a := fun j e hj z => by
        have := (R.own j e hj).2.1
        rw [z, hF] at this; cases this
      rcases R.wd.sub a o hF with q | ⟨_, ob, q⟩
      · refine ⟨a, o, rfl, dob, .inr ⟨q, fun od _ => ⟨(R.lockF hF kk q).guard upd_same (.inr trivial) nocell noown, cont_val hv, free_same (R.lockF (od := od) hF kk q) (.inl upd_same), sub_same (R.lockF (od := od) hF kk q) (.inl upd_same)⟩⟩⟩
      · exact ⟨a, o, rfl, dob, .inl ⟨ob, q, R.guard q (.inr trivial) nocell noown, cont_val hv, free_same R (.inl q), sub_same R (.inl q)⟩⟩
end
section
variable {p : Pg} {N : List Str} {sc : Scope} {fn : Str → Bool} {k : Nat} {X : Cx} {G : Fns} {ρ : Env'} {S : Store} {e ea eb ec tg : Expr} {pos : Pos} {a b c : Ex}
theorem free_none {Pr : Hp} {F : Hp} {ι : List Addr} : FreeOk X p Pr none none F ι := by
  intro ρ' S' F' ι' α' σ' H' S'' R' _ _ e
  cases e
  exact ⟨H', R', fun b o q _ => q, fun P q => .inl q⟩
theorem keys_items {κ : Type} {K : PySem.W.Frag} {F : Hp} {ι : List Addr} : ∀ {kvs : List (κ × V)} {es : List (κ × D)}, kvs.map (·.1) = es.map (·.1) → Reps K F ι (kvs.map (·.2)) (es.map (·.2)) → ∀ {i : Nat} {key : κ} {v : V}, kvs[i]? = some (key, v) → ∃ d, es[i]? = some (key, d) ∧ Rep K F ι v d
  | [], _, _, _, _, _, _, h => by simp at h
  | _ :: _, [], e, _, _, _, _, _ => by cases e
  | (k1, v1) :: kvs, (k2, d2) :: es, e, r, i, key, v, h => by
    simp only [List.map_cons, List.cons.injEq] at e
    cases r with
    | cons r1 r2 =>
    cases i with
    | zero => simp at h; obtain ⟨rfl, rfl⟩ := h; exact ⟨d2, by simp [e.1], r1⟩
    | succ i => simpa using keys_items e.2 r2 (i := i) (by simpa using h)
theorem dK1_rep {K : PySem.W.Frag} {F : Hp} {ι : List Addr} (key : Key) : Rep K F ι (kV key) (dK1 key) := by cases key <;> first | exact .int _ | exact .str _
theorem ks_reps {K : PySem.W.Frag} {F : Hp} {ι : List Addr} : ∀ ks : List Key, Reps K F ι (ks.map kV) (ks.map dK1)
  | [] => .nil
  | k :: ks => .cons (dK1_rep k) (ks_reps ks)
theorem walk_lst {F0 : Hp} {ι0 : List Addr} {ad : Addr} {xs : List D} {Lk} (g : X.K = p.K) : Walk p (Itl X.K ad) F0 ι0 (.ref ad) (.lst xs) xs Lk where
  step := fun {i d} hd {Pr S F ι H} W l m cv _ => by
    obtain ⟨a, vs, ea, q1, q2⟩ := cv
    cases ea
    obtain ⟨v, h1, h2⟩ := q2.at hd
    rw [← g] at q1
    refine ⟨⟨vs, v, q1, h1⟩, fun x H' y => ?_⟩
    obtain ⟨rfl, y⟩ := y
    have := y vs q1
    rw [h1] at this; cases this
    exact ⟨F, .refl, h2⟩
  stop := fun {Pr S F ι H} W l m cv _ => by
    obtain ⟨a, vs, ea, q1, q2⟩ := cv
    cases ea
    exact ⟨vs, by rw [g]; exact q1, Nat.le_of_eq q2.length⟩
theorem walk_tup {F0 : Hp} {ι0 : List Addr} {ad : Addr} {xs : List D} {Lk} (g : X.K = p.K) : Walk p (Itt X.K ad) F0 ι0 (.ref ad) (.tup xs) xs Lk where
  step := fun {i d} hd {Pr S F ι H} W l m cv _ => by
    obtain ⟨a, vs, ea, q1, q2⟩ := cv
    cases ea
    obtain ⟨v, h1, h2⟩ := q2.at hd
    have q3 : SqT X.K H ad vs := q1.sq
    refine ⟨⟨vs, v, q3, h1⟩, fun x H' y => ?_⟩
    obtain ⟨rfl, y⟩ := y
    have := y vs q3
    rw [h1] at this; cases this
    exact ⟨F, .refl, h2⟩
  stop := fun {Pr S F ι H} W l m cv _ => by
    obtain ⟨a, vs, ea, q1, q2⟩ := cv
    cases ea
    exact ⟨vs, q1.sq, Nat.le_of_eq q2.length⟩
theorem walk_ctup {F0 : Hp} {ι0 : List Addr} {ad : Addr} {xs : List D} {Lk} (g : X.K = p.K) : Walk p (Itt X.K ad) F0 ι0 (.ref ad) (.ctup xs) xs Lk where
  step := fun {i d} hd {Pr S F ι H} W l m cv _ => by
    obtain ⟨a, vs, ea, q1, q2⟩ := cv
    cases ea
    obtain ⟨v, h1, h2⟩ := q2.at hd
    have q3 : SqT X.K H ad vs := (.inl q1)
    refine ⟨⟨vs, v, q3, h1⟩, fun x H' y => ?_⟩
    obtain ⟨rfl, y⟩ := y
    have := y vs q3
    rw [h1] at this; cases this
    exact ⟨F, .refl, h2⟩
  stop := fun {Pr S F ι H} W l m cv _ => by
    obtain ⟨a, vs, ea, q1, q2⟩ := cv
    cases ea
    exact ⟨vs, (.inl q1), Nat.le_of_eq q2.length⟩
theorem walk_str {F0 : Hp} {ι0 : List Addr} {x : Str} {v : V} {u : D} {Lk} : Walk p (Its x) F0 ι0 v u (signs x) Lk where
  step := fun {i d} hd {Pr S F ι H} W l m cv _ => by
    unfold signs at hd
    rw [List.getElem?_map] at hd
    obtain ⟨c, h1, h2⟩ := Option.map_eq_some_iff.mp hd
    subst h2
    rw [Array.getElem?_toList] at h1
    refine ⟨?_, fun y H' q => ?_⟩
    · exact (Array.getElem?_eq_some_iff.mp h1).1
    · obtain ⟨rfl, c', e1, e2⟩ := q
      rw [h1] at e1; cases e1
      subst e2
      exact ⟨F, .refl, .str _⟩
  stop := fun {Pr S F ι H} W l m cv _ => by
    show x.cps.size ≤ (signs x).length
    unfold signs
    rw [List.length_map, Array.length_toList]; exact Nat.le_refl _
theorem walk_rng {F0 : Hp} {ι0 : List Addr} {lo : Int} {n : Nat} {v : V} {u : D} {Lk} : Walk p (Itr lo n) F0 ι0 v u (rngD lo n) Lk where
  step := fun {i d} hd {Pr S F ι H} W l m cv _ => by
    unfold rngD at hd
    rw [List.getElem?_map] at hd
    obtain ⟨c, h1, h2⟩ := Option.map_eq_some_iff.mp hd
    subst h2
    obtain ⟨h3, h4⟩ := List.getElem?_eq_some_iff.mp h1
    rw [List.length_range] at h3
    rw [List.getElem_range] at h4
    subst h4
    refine ⟨h3, fun y H' q => ?_⟩
    obtain ⟨rfl, rfl⟩ := q
    exact ⟨F, .refl, .int _⟩
  stop := fun {Pr S F ι H} W l m cv _ => by
    show n ≤ (rngD lo n).length
    unfold rngD
    rw [List.length_map, List.length_range]; exact Nat.le_refl _
theorem walk_keysK {F0 : Hp} {ι0 : List Addr} {ad : Addr} {od : Obj} {kvs : List (Key × V)} {es : List (Key × D)} {v : V} {u : D} (e : kvs.map (·.1) = es.map (·.1)) (r : Reps p.K F0 ι0 (kvs.map (·.2)) (es.map (·.2))) :
    Walk p (Itk ad od kvs) F0 ι0 v u (es.map fun e => dK1 e.1) (some (ad, .frz od (.dK kvs))) where
  step := fun {i d} hd {Pr S F ι H} W l m cv lk => by
    rw [List.getElem?_map] at hd
    obtain ⟨⟨key, d'⟩, h1, h2⟩ := Option.map_eq_some_iff.mp hd
    subst h2
    have hl : kvs.length = es.length := by have := congrArg List.length e; simpa using this
    refine ⟨⟨lk, by rw [hl]; exact (List.getElem?_eq_some_iff.mp h1).1⟩, fun x H' q => ?_⟩
    obtain ⟨rfl, key', v', e1, rfl⟩ := q
    obtain ⟨d2, e2, _⟩ := keys_items e r e1
    rw [h1] at e2; cases e2
    exact ⟨F, .refl, dK1_rep _⟩
  stop := fun {Pr S F ι H} W l m cv lk => by
    refine ⟨lk, ?_⟩
    have hl : kvs.length = es.length := by have := congrArg List.length e; simpa using this
    rw [List.length_map, hl]; exact Nat.le_refl _
theorem walk_keysT {F0 : Hp} {ι0 : List Addr} {ad : Addr} {od : Obj} {kvs : List (List Key × V)} {es : List (List Key × D)} {v : V} {u : D} (e : kvs.map (·.1) = es.map (·.1)) (r : Reps p.K F0 ι0 (kvs.map (·.2)) (es.map (·.2))) :
    Walk p (Itkt ad od kvs) F0 ι0 v u (es.map fun e => dT1 e.1) (some (ad, .frz od (.dT kvs))) where
  step := fun {i d} hd {Pr S F ι H} W l m cv lk => by
    rw [List.getElem?_map] at hd
    obtain ⟨⟨key, d'⟩, h1, h2⟩ := Option.map_eq_some_iff.mp hd
    subst h2
    have hl : kvs.length = es.length := by have := congrArg List.length e; simpa using this
    refine ⟨⟨lk, by rw [hl]; exact (List.getElem?_eq_some_iff.mp h1).1⟩, fun x H' q => ?_⟩
    obtain ⟨rfl, key', v', ad2, e1, rfl, e3⟩ := q
    obtain ⟨d2, e2, _⟩ := keys_items e r e1
    rw [h1] at e2; cases e2
    cases hF : F ad2 with
    | some o =>
      have : o = .tup (key.map kV) := by
        rcases W.sub _ _ hF with q | ⟨_, ob, q⟩
        · rw [e3] at q; cases q; rfl
        · rw [e3] at q; cases q
      subst this
      exact ⟨F, .refl, .tup hF (ks_reps key)⟩
    | none =>
      refine ⟨upd F ad2 (.tup (key.map kV)), ⟨LeH.refl _, LeH.upd hF, fun b o q => ?_⟩, .tup upd_same (ks_reps key)⟩
      by_cases hb : b = ad2
      · subst hb; rw [upd_same] at q; cases q
        exact .inr ⟨e3, .inr ⟨_, rfl⟩⟩
      · rw [upd_ne hb] at q; exact .inl q
  stop := fun {Pr S F ι H} W l m cv lk => by
    refine ⟨lk, ?_⟩
    have hl : kvs.length = es.length := by have := congrArg List.length e; simpa using this
    rw [List.length_map, hl]; exact Nat.le_refl _
theorem walk_items {F0 : Hp} {ι0 : List Addr} {ad : Addr} {od : Obj} {kvs : List (Key × V)} {es : List (Key × D)} {v : V} {u : D} (e : kvs.map (·.1) = es.map (·.1)) (r : Reps p.K F0 ι0 (kvs.map (·.2)) (es.map (·.2))) :
    Walk p (Iti ad od kvs) F0 ι0 v u (es.map fun e => .tup [dK1 e.1, e.2]) (some (ad, .frz od (.dK kvs))) where
  step := fun {i d} hd {Pr S F ι H} W l m cv lk => by
    rw [List.getElem?_map] at hd
    obtain ⟨⟨key, d'⟩, h1, h2⟩ := Option.map_eq_some_iff.mp hd
    subst h2
    have hl : kvs.length = es.length := by have := congrArg List.length e; simpa using this
    refine ⟨⟨lk, by rw [hl]; exact (List.getElem?_eq_some_iff.mp h1).1⟩, fun x H' q => ?_⟩
    obtain ⟨T, key', v', e1, rfl, hT, rfl⟩ := q
    obtain ⟨d2, e2, rv⟩ := keys_items e r e1
    rw [h1] at e2; cases e2
    have hF := W.fresh hT
    have gr : Grow F H (upd F T (.tup [kV key, v'])) (upd H T (.tup [kV key, v'])) := .one hF hT
    exact ⟨_, gr, .tup upd_same (.cons (dK1_rep _) (.cons ((rv.le l m).le gr.f (LeA.refl _)) .nil))⟩
  stop := fun {Pr S F ι H} W l m cv lk => by
    refine ⟨lk, ?_⟩
    have hl : kvs.length = es.length := by have := congrArg List.length e; simpa using this
    rw [List.length_map, hl]; exact Nat.le_refl _

theorem lock_flat {ρ : Env'} {S S2 : Store} {w : Hd} {u : D} {lk : Option (Nat × D)} (h : isDct (some u) = false) (c : cont ρ S w = some u) (e : lockS ρ S w = some (S2, lk)) : S2 = S ∧ lk = none := by
  cases w with
  | slot i =>
    simp only [cont] at c
    simp only [lockS] at e
    split at e
    · cases e; exact ⟨rfl, rfl⟩
    · cases e
  | val v =>
    cases v <;> first
      | (simp only [lockS] at e; cases e; exact ⟨rfl, rfl⟩)
      | (simp only [cont] at c
         simp only [lockS] at e
         split at c
         · rename_i hc; rw [hc] at e; cases c
           cases u <;> first | (cases e; exact ⟨rfl, rfl⟩) | cases h
         · rename_i hc; rw [hc] at e; cases e; exact ⟨rfl, rfl⟩
         · cases c)
end
end Z

set_option Elab.async false
set_option linter.all false
set_option maxRecDepth 100000
set_option maxHeartbeats 4000000
namespace Z
open PySem PySem.Spec PyProof.Rows L2
section
variable {p : Pg} {N : List Str} {sc : Scope} {fn : Str → Bool} {k : Nat} {X : Cx} {G : Fns} {ρ : Env'} {S : Store} {e ea eb ec tg : Expr} {pos : Pos} {a b c : Ex}
theorem fi_seq (g : Good p N sc fn k X) (ha : FH p X ρ S ea (hOf a ρ S (evE G a ρ S))) : FI p X ρ S tg ea (evI G (.seq a) ρ S) := by
  intro Pr F ι α σ H R w xs S1 e S2 lk el P q
  rw [evI] at e
  obtain ⟨⟨h1, S1'⟩, e1, e⟩ := Option.bind_eq_some_iff.mp e
  obtain ⟨u, e2, e⟩ := Option.bind_eq_some_iff.mp e
  obtain ⟨ys, e3, e4⟩ := Option.map_eq_some_iff.mp e
  cases e4
  by_cases hd : isDct (some u) = true
  · refine wI_of (pi_keys peW) (wE_lock (ha Pr F ι α σ H R _ _ e1 _ fun x F1 ι1 H1 R1 l1 m1 r1 => ?_))
    obtain ⟨c, o, rfl, dob, hh⟩ := lock_ok (X := X) R1 r1 e2 hd el
    cases u <;> try cases hd
    · rename_i es
      obtain ⟨kvs, rfl, k1, k2⟩ := dob
      cases e3
      rcases hh with ⟨od, ho, R2, c2, fo, sb⟩ | ⟨ho, hh⟩
      · exact .inl ⟨c, od, rfl, .inl ⟨kvs, ho, q _ _ _ _ F1 ι1 H1 R2 l1 m1 r1 c2 (walk_keysK k1 k2) fo sb⟩⟩
      · refine .inr ⟨c, _, ho, trivial, fun od nf => ?_⟩
        obtain ⟨R2, c2, fo, sb⟩ := hh od nf
        exact ⟨c, od, rfl, .inl ⟨kvs, upd_same, q _ _ _ _ F1 ι1 _ R2 l1 m1 r1 c2 (walk_keysK k1 k2) fo sb⟩⟩
    · rename_i es
      obtain ⟨kvs, rfl, k1, k2⟩ := dob
      cases e3
      rcases hh with ⟨od, ho, R2, c2, fo, sb⟩ | ⟨ho, hh⟩
      · exact .inl ⟨c, od, rfl, .inr ⟨kvs, ho, q _ _ _ _ F1 ι1 H1 R2 l1 m1 r1 c2 (walk_keysT k1 k2) fo sb⟩⟩
      · refine .inr ⟨c, _, ho, trivial, fun od nf => ?_⟩
        obtain ⟨R2, c2, fo, sb⟩ := hh od nf
        exact ⟨c, od, rfl, .inr ⟨kvs, upd_same, q _ _ _ _ F1 ι1 _ R2 l1 m1 r1 c2 (walk_keysT k1 k2) fo sb⟩⟩
  · have hd : isDct (some u) = false := by simpa using hd
    obtain ⟨rfl, rfl⟩ := lock_flat hd e2 el
    cases u <;> try cases hd
    · cases e3
    · cases e3
    · cases e3
    · simp only [itemsIn] at e3
      split at e3
      · cases e3
        refine wI_of (pi_str peW) (ha Pr F ι α σ H R _ _ e1 _ fun x F1 ι1 H1 R1 l1 m1 r1 => ?_)
        have cv := cv_of R1 r1 e2
        cases cv
        exact ⟨_, rfl, q _ _ _ none F1 ι1 H1 R1 l1 m1 r1 e2 walk_str free_none fun _ _ z => z⟩
      · cases e3
    · cases e3
      refine wI_of (pi_list peW) (ha Pr F ι α σ H R _ _ e1 _ fun x F1 ι1 H1 R1 l1 m1 r1 => ?_)
      obtain ⟨c, vs, rfl, q1, q2⟩ := cv_of R1 r1 e2
      exact ⟨c, rfl, ⟨vs, by rw [g.K]; exact q1⟩, q _ _ _ none F1 ι1 H1 R1 l1 m1 r1 e2 (walk_lst g.K) free_none fun _ _ z => z⟩
    · cases e3
      refine wI_of (pi_tup peW) (ha Pr F ι α σ H R _ _ e1 _ fun x F1 ι1 H1 R1 l1 m1 r1 => ?_)
      obtain ⟨c, vs, rfl, q1, q2⟩ := cv_of R1 r1 e2
      exact ⟨c, rfl, ⟨vs, q1.sq⟩, q _ _ _ none F1 ι1 H1 R1 l1 m1 r1 e2 (walk_tup g.K) free_none fun _ _ z => z⟩
    · cases e3
    · cases e3
      refine wI_of (pi_tup peW) (ha Pr F ι α σ H R _ _ e1 _ fun x F1 ι1 H1 R1 l1 m1 r1 => ?_)
      obtain ⟨c, vs, rfl, q1, q2⟩ := cv_of R1 r1 e2
      exact ⟨c, rfl, ⟨vs, .inl q1⟩, q _ _ _ none F1 ι1 H1 R1 l1 m1 r1 e2 (walk_ctup g.K) free_none fun _ _ z => z⟩
theorem smallI_ok {i : Int} (h : smallI i = true) : -(2 ^ 62) ≤ i ∧ i < 2 ^ 62 := by
  unfold smallI at h
  simpa using h
theorem fi_rng {pp : Pos} (g : Good p N sc fn k X) (hg : sc.names.lookup ("range" : Str) = some .globalImplicit) (hm : p.mg "range" = none) (hs : isStar ea = false) (ha : ∀ S, FE p X ρ S ea (evE G a ρ S)) : FI p X ρ S tg (.Call (.Name "range" pp) [ea] [] pos) (evI G (.rng a) ρ S) := by
  intro Pr F ι α σ H R w xs S1 e S2 lk el P q
  rw [evI] at e
  obtain ⟨⟨u, S1'⟩, e1, e⟩ := Option.bind_eq_some_iff.mp e
  obtain ⟨j, e2, e⟩ := Option.bind_eq_some_iff.mp e
  split at e
  · rename_i hj
    cases e
    cases intOf_eq e2
    simp only [lockS] at el
    cases el
    have hG : Gl X "range" := by show X.env.scope.names.lookup _ = _; rw [g.sc]; exact hg
    have hM : X.mg "range" = none := by rw [← hm, ← g.pg]; rfl
    have fa : FA p X ρ S [ea] (evA G (.cons a .nil) ρ S) := fa_cons hs (ha S) fun S => fa_nil
    refine wI_of (pi_range1 hG hM paW (star_cons hs)) (fa Pr F ι α σ H R [.int j] S2 (by simp [evA, e1]) _ fun vs F1 ι1 H1 R1 l1 m1 rs => ?_)
    cases rs with
    | cons r1 r2 =>
    cases r2
    cases r1
    obtain ⟨h1, h2⟩ := smallI_ok hj
    exact ⟨j, rfl, h1, h2, q _ .non .non none F1 ι1 H1 R1 l1 m1 (show Rep p.K F1 ι1 .non .non from .non) rfl walk_rng free_none fun _ _ z => z⟩
  · cases e
theorem fi_rng2 {pp : Pos} (g : Good p N sc fn k X) (hg : sc.names.lookup ("range" : Str) = some .globalImplicit) (hm : p.mg "range" = none) (hs : isStar ea = false) (hs2 : isStar eb = false) (ha : ∀ S, FE p X ρ S ea (evE G a ρ S)) (hb : ∀ S, FE p X ρ S eb (evE G b ρ S)) :
    FI p X ρ S tg (.Call (.Name "range" pp) [ea, eb] [] pos) (evI G (.rng2 a b) ρ S) := by
  intro Pr F ι α σ H R w xs S1 e S2 lk el P q
  rw [evI] at e
  obtain ⟨⟨u, S1'⟩, e1, e⟩ := Option.bind_eq_some_iff.mp e
  obtain ⟨⟨u2, S2'⟩, e3, e⟩ := Option.bind_eq_some_iff.mp e
  obtain ⟨i, e2, e⟩ := Option.bind_eq_some_iff.mp e
  obtain ⟨j, e4, e⟩ := Option.bind_eq_some_iff.mp e
  split at e
  · rename_i hj
    cases e
    cases intOf_eq e2
    cases intOf_eq e4
    simp only [lockS] at el
    cases el
    have hG : Gl X "range" := by show X.env.scope.names.lookup _ = _; rw [g.sc]; exact hg
    have hM : X.mg "range" = none := by rw [← hm, ← g.pg]; rfl
    have fa : FA p X ρ S [ea, eb] (evA G (.cons a (.cons b .nil)) ρ S) := fa_cons hs (ha S) fun S => fa_cons hs2 (hb S) fun S => fa_nil
    refine wI_of (pi_range2 hG hM paW ((star_cons hs).trans (by rw [star_cons hs2]; rfl)) (star_cons hs2)) (fa Pr F ι α σ H R [.int i, .int j] S2 (by simp [evA, e1, e3]) _ fun vs F1 ι1 H1 R1 l1 m1 rs => ?_)
    cases rs with
    | cons r1 r2 =>
    cases r2 with
    | cons r2 r3 =>
    cases r3
    cases r1
    cases r2
    rw [Bool.and_eq_true] at hj
    obtain ⟨h1, h2⟩ := smallI_ok hj.1
    obtain ⟨h3, h4⟩ := smallI_ok hj.2
    exact ⟨i, j, rfl, ⟨h1, h2, h3, h4⟩, q _ .non .non none F1 ι1 H1 R1 l1 m1 (show Rep p.K F1 ι1 .non .non from .non) rfl walk_rng free_none fun _ _ z => z⟩
  · cases e
theorem fi_items {elts : List Expr} {kk : Nat} {tpos apos : Pos} (hb : attributeBase ea "items" X.env (eval ea X.env) = eval ea X.env) (hl : (apos.endLine == pos.line) = true) (ha : FH p X ρ S ea (hOf a ρ S (evE G a ρ S))) :
    FI p X ρ S (.Tuple elts kk tpos) (.Call (.Attribute ea "items" apos) [] [] pos) (evI G (.items a) ρ S) := by
  intro Pr F ι α σ H R w xs S1 e S2 lk el P q
  rw [evI] at e
  obtain ⟨⟨h1, S1'⟩, e1, e⟩ := Option.bind_eq_some_iff.mp e
  obtain ⟨u, e2, e⟩ := Option.bind_eq_some_iff.mp e
  obtain ⟨ys, e3, e4⟩ := Option.map_eq_some_iff.mp e
  cases e4
  cases u <;> try cases e3
  rename_i es
  refine wI_of (pi_items peW hb hl) (wE_lock (ha Pr F ι α σ H R _ _ e1 _ fun x F1 ι1 H1 R1 l1 m1 r1 => ?_))
  obtain ⟨c, o, rfl, dob, hh⟩ := lock_ok (X := X) R1 r1 e2 rfl el
  obtain ⟨kvs, rfl, k1, k2⟩ := dob
  rcases hh with ⟨od, ho, R2, c2, fo, sb⟩ | ⟨ho, hh⟩
  · exact .inl ⟨c, od, kvs, rfl, ho, q _ _ _ _ F1 ι1 H1 R2 l1 m1 r1 c2 (walk_items k1 k2) fo sb⟩
  · refine .inr ⟨c, _, ho, trivial, fun od nf => ?_⟩
    obtain ⟨R2, c2, fo, sb⟩ := hh od nf
    exact ⟨c, od, kvs, rfl, upd_same, q _ _ _ _ F1 ι1 _ R2 l1 m1 r1 c2 (walk_items k1 k2) fo sb⟩
end
/-! # targets -/
def setAll (ρ : Env') (l : List (Nat × D)) : Env' := l.foldl (fun ρ p => ρ.set p.1 (.fz p.2)) ρ
def wG (X : Cx) (tg : Expr) : TG := fun v σ H Q => ∀ pins s u, Inv X pins σ H s → RelV v u → wpAny (model X.prog X.w) X.A (assign tg X.env u) (fun _ s' => ∃ σ' H', Inv X pins σ' H' s' ∧ Q σ' H') X.xe s
theorem pgW {X : Cx} {tg : Expr} : PG X tg (wG X tg) := ⟨fun pins s _ _ _ u _ I r h => h pins s u I r⟩
/-- a target of a for or a comprehension -/
def FG (p : Pg) (X : Cx) (t : Tg) (tg : Expr) : Prop := ∀ {Pr ρ S F ι α σ H}, Rel p Pr ρ S F ι α σ H → ∀ {v d ρ'}, Rep p.K F ι v d → bindT t d ρ = some ρ' → ∀ Q : L2.St → Hp → Prop,
  (∀ σ', Rel p Pr ρ' S F ι α σ' H → (∀ vs, (∀ i ∈ t.ix, i ∈ vs) → wipe σ' vs = wipe σ vs) → Q σ' H) → wG X tg v σ H Q
theorem set_set_comm' {β : Type} (l : List β) {i j : Nat} (h : i ≠ j) (x y : β) : (l.set i x).set j y = (l.set j y).set i x := by
  apply List.ext_getElem?
  intro n
  simp only [List.getElem?_set, List.length_set]
  by_cases h1 : j = n <;> by_cases h2 : i = n <;> simp_all
theorem wipe_set {σ : L2.St} {i : Nat} {v : Option V} : ∀ {vs : List Nat}, i ∈ vs → wipe (σ.set i v) vs = wipe σ vs
  | x :: vs, h => by
    show (wipe (σ.set i v) vs).set x none = (wipe σ vs).set x none
    by_cases hi : i ∈ vs
    · rw [wipe_set hi]
    · have hx : i = x := by
        rcases List.mem_cons.mp h with h | h
        · exact h
        · exact absurd h hi
      subst hx
      have : ∀ vs : List Nat, i ∉ vs → wipe (σ.set i v) vs = (wipe σ vs).set i v := by
        intro vs
        induction vs with
        | nil => intro _; rfl
        | cons y vs ih =>
          intro hn
          show (wipe (σ.set i v) vs).set y none = ((wipe σ vs).set y none).set i v
          rw [ih (fun z => hn (List.mem_cons_of_mem _ z)), set_set_comm' _ (fun z => hn (by rw [z]; exact List.mem_cons_self))]
      rw [this vs hi, List.set_set]
theorem fg_nm {p : Pg} {N : List Str} {sc : Scope} {fn : Str → Bool} {k : Nat} {X : Cx} {i : Nat} {x : Str} {pos : Pos} (g : Good p N sc fn k X) (hN : N[i]? = some x) (hl : Loc sc x) (hf : fn x = true ∨ sc.names.lookup x = some .local) : FG p X (.nm i) (.Name x pos) := by
  intro Pr ρ S F ι α σ H R v d ρ' r e Q q pins s u I rv
  cases e
  exact (pg_name (i := i) (by rw [g.hN]; exact g.nd) (by rw [g.hN]; exact hN) (by rw [g.sc]; exact hl) (by rw [g.fn, g.sc]; exact hf)).run pins s σ H v u Q I rv (q _ (R.setFz r) fun vs h => wipe_set (h i (by simp [Tg.ix])))
/-- names of a tuple target -/
def NmOk (N : List Str) (sc : Scope) (fn : Str → Bool) : List Nat → List Expr → Prop
  | [], [] => True
  | i :: is, .Name x _ :: es => N[i]? = some x ∧ Loc sc x ∧ (fn x = true ∨ sc.names.lookup x = some .local) ∧ NmOk N sc fn is es
  | _, _ => False
theorem fg_all {p : Pg} {N : List Str} {sc : Scope} {fn : Str → Bool} {k : Nat} {X : Cx} (g : Good p N sc fn k X) : ∀ {is : List Nat} {es : List Expr}, NmOk N sc fn is es → (assignEach es X.env).findIdx? (·.1) = none ∧ (assignEach es X.env).length = is.length ∧
    ∃ t, PGs X es t ∧ ∀ {Pr ρ S F ι α σ H}, Rel p Pr ρ S F ι α σ H → ∀ {vs ds}, Reps p.K F ι vs ds → ds.length = is.length → ∀ Q : L2.St → Hp → Prop,
      (∀ σ', Rel p Pr (setAll ρ (is.zip ds)) S F ι α σ' H → (∀ vs, (∀ i ∈ is, i ∈ vs) → wipe σ' vs = wipe σ vs) → Q σ' H) → t vs σ H Q
  | [], [], _ => ⟨rfl, rfl, _, pgs_nil, fun {Pr ρ S F ι α σ H} R vs ds r hl Q q => by
    cases r with
    | nil => exact ⟨rfl, q σ R fun _ _ => rfl⟩
    | cons _ _ => cases hl⟩
  | i :: is, e :: es, h => by
    cases e <;> try exact h.elim
    rename_i x ps
    obtain ⟨hN, hl, hf, hr⟩ := h
    obtain ⟨h1, h2, t, pt, ht⟩ := fg_all g hr
    have hg : FG p X (.nm i) (.Name x ps) := fg_nm g hN hl hf
    have hst : assignEach (.Name x ps :: es) X.env = (false, assign (.Name x ps) X.env) :: assignEach es X.env := rfl
    refine ⟨?_, ?_, _, pgs_cons pgW pt, fun {Pr ρ S F ι α σ H} R vs ds r hl Q q => ?_⟩
    · rw [hst, List.findIdx?_cons]
      simp [h1]
    · rw [hst, List.length_cons, h2]; rfl
    · cases r with
      | nil => cases hl
      | @cons v d vs ds r1 r2 =>
      refine ⟨v, vs, rfl, hg R (ρ' := ρ.set i (.fz d)) r1 rfl _ fun σ' R' w1 => ht R' r2 (by simpa using hl) _ fun σ2 R2 w2 => ?_⟩
      refine q σ2 R2 fun ws hw => ?_
      rw [w2 ws fun j hj => hw j (List.mem_cons_of_mem _ hj), w1 ws fun j hj => ?_]
      have : j = i := by simpa [Tg.ix] using hj
      rw [this]; exact hw i List.mem_cons_self
  | [], _ :: _, h => h.elim
  | _ :: _, [], h => h.elim
theorem fg_nms {p : Pg} {N : List Str} {sc : Scope} {fn : Str → Bool} {k : Nat} {X : Cx} {is : List Nat} {es : List Expr} {kk : Nat} {pos : Pos} (g : Good p N sc fn k X) (h : NmOk N sc fn is es) : FG p X (.nms is) (.Tuple es kk pos) := by
  obtain ⟨h1, h2, t, pt, ht⟩ := fg_all g h
  intro Pr ρ S F ι α σ H R v d ρ' r e Q q pins s u I rv
  refine (pg_tup g.calm pt h2 h1).run pins s σ H v u Q I rv ?_
  simp only [bindT] at e
  split at e
  · rename_i ds
    split at e
    · rename_i hl
      cases e
      cases r with
      | @tup a vs ds f rs =>
      exact ⟨a, vs, rfl, (R.wd.sub _ _ f).tup.sq, by rw [rs.length, hl], ht R rs hl _ fun σ' R' w => q σ' R' w⟩
    · cases e
  · rename_i ds
    split at e
    · rename_i hl
      cases e
      cases r with
      | @ctup a vs ds f rs =>
      exact ⟨a, vs, rfl, .inl (rd_sub R.wd.sub f), by rw [rs.length, hl], ht R rs hl _ fun σ' R' w => q σ' R' w⟩
    · cases e
  · cases e

/-! # comprehensions -/
section
variable {p : Pg} {Pr : Hp} {ρ : Env'} {S : Store} {F : Hp} {ι : List Addr} {α : Nat → Addr} {σ : L2.St} {H : Hp} {a : Addr} {d : D}
theorem wipeS_at {ρ : Env'} {j : Nat} {x : Slot} : ∀ {is : List Nat}, (wipeS ρ is)[j]? = some x → (j ∉ is ∧ ρ[j]? = some x) ∨ x = .un
  | [], h => .inl ⟨by simp, h⟩
  | i :: is, h => by
    have h : ((wipeS ρ is).set i .un)[j]? = some x := h
    rcases getElem?_set_slot h with ⟨_, _, z⟩ | ⟨ne, h⟩
    · exact .inr z
    · rcases wipeS_at h with ⟨h1, h2⟩ | h
      · exact .inl ⟨fun z => by
          rcases List.mem_cons.mp z with z | z
          · exact ne z.symm
          · exact h1 z, h2⟩
      · exact .inr h
theorem wipeS_out {ρ : Env'} {j : Nat} : ∀ {is : List Nat}, j ∉ is → (wipeS ρ is)[j]? = ρ[j]?
  | [], _ => rfl
  | i :: is, h => by
    show ((wipeS ρ is).set i .un)[j]? = _
    rw [List.getElem?_set_ne fun z => h (by rw [← z]; exact List.mem_cons_self)]
    exact wipeS_out fun z => h (List.mem_cons_of_mem _ z)
theorem wipeS_len {ρ : Env'} : ∀ {is : List Nat}, (wipeS ρ is).length = ρ.length
  | [] => rfl
  | i :: is => by
    show ((wipeS ρ is).set i .un).length = _
    rw [List.length_set, wipeS_len]
theorem wipe_out {σ : L2.St} {j : Nat} : ∀ {is : List Nat}, j ∉ is → (wipe σ is)[j]? = σ[j]?
  | [], _ => rfl
  | i :: is, h => by
    show ((wipe σ is).set i none)[j]? = _
    rw [List.getElem?_set_ne fun z => h (by rw [← z]; exact List.mem_cons_self)]
    exact wipe_out fun z => h (List.mem_cons_of_mem _ z)
theorem wipe_in {σ : L2.St} {j : Nat} : ∀ {is : List Nat}, j ∈ is → (wipe σ is)[j]? = if j < σ.length then some none else none
  | i :: is, h => by
    show ((wipe σ is).set i none)[j]? = _
    rw [List.getElem?_set, wipe_length]
    by_cases e : i = j
    · subst e; simp
    · rw [if_neg e]
      exact wipe_in (by
        rcases List.mem_cons.mp h with h | h
        · exact absurd h.symm e
        · exact h)
theorem wipe_wipe (σ : L2.St) (is : List Nat) : wipe (wipe σ is) is = wipe σ is := by
  apply List.ext_getElem?
  intro j
  by_cases h : j ∈ is
  · rw [wipe_in h, wipe_in h, wipe_length]
  · rw [wipe_out h]
theorem Rel.wipe (R : Rel p Pr ρ S F ι α σ H) (is : List Nat) : Rel p Pr (wipeS ρ is) S F ι α (L2.wipe σ is) H where
  wd := R.wd
  fz := fun i d h => by
    rcases wipeS_at h with ⟨h1, h2⟩ | h
    · rw [wipe_out h1]; exact R.fz i d h2
    · cases h
  own := fun i d h => by
    rcases wipeS_at h with ⟨h1, h2⟩ | h
    · rw [wipe_out h1]; exact R.own i d h2
    · cases h
  lng := by rw [wipeS_len, wipe_length]; exact R.lng
  inj := fun i j d e h1 h2 z => by
    rcases wipeS_at h1 with ⟨_, h1⟩ | h1
    · rcases wipeS_at h2 with ⟨_, h2⟩ | h2
      · exact R.inj i j d e h1 h2 z
      · cases h2
    · cases h1
theorem noOwn_ok {is : List Nat} (h : noOwn ρ is = true) {i : Nat} {e : D} (he : ρ[i]? = some (.own e)) : i ∉ is := fun hi => by
  unfold noOwn at h
  have := List.all_eq_true.mp h i hi
  rw [he] at this
  cases this
theorem setAll_out {j : Nat} : ∀ {l : List (Nat × D)} {ρ : Env'}, (∀ q ∈ l, q.1 ≠ j) → (setAll ρ l)[j]? = ρ[j]?
  | [], _, _ => rfl
  | q :: l, ρ, h => by
    show (setAll (ρ.set q.1 (.fz q.2)) l)[j]? = _
    rw [setAll_out fun r hr => h r (List.mem_cons_of_mem _ hr), List.getElem?_set_ne (h q List.mem_cons_self)]
theorem bindT_own {t : Tg} {ρ' : Env'} {v e : D} (h : bindT t v (wipeS ρ t.ix) = some ρ') (no : noOwn ρ t.ix = true) {i : Nat} (he : ρ[i]? = some (.own e)) : ρ'[i]? = some (.own e) := by
  have hi := noOwn_ok no he
  cases t with
  | nm j =>
    cases h
    have hi : i ∉ [j] := hi
    rw [List.getElem?_set_ne fun z => hi (by simp [z])]
    show (wipeS ρ [j])[i]? = _
    rw [wipeS_out hi]; exact he
  | nms js =>
    simp only [bindT] at h
    split at h
    · split at h
      · cases h
        rename_i ds _
        have := setAll_out (l := js.zip ds) (ρ := wipeS ρ js) (j := i) fun q hq z => hi (by
          rw [← z]
          exact (List.of_mem_zip hq).1)
        show (setAll (wipeS ρ js) (js.zip ds))[i]? = _
        rw [this]; exact (wipeS_out (is := js) hi).trans he
      · cases h
    · split at h
      · cases h
        rename_i ds _
        have := setAll_out (l := js.zip ds) (ρ := wipeS ρ js) (j := i) fun q hq z => hi (by
          rw [← z]
          exact (List.of_mem_zip hq).1)
        show (setAll (wipeS ρ js) (js.zip ds))[i]? = _
        rw [this]; exact (wipeS_out (is := js) hi).trans he
      · cases h
    · cases h
/-- behind a block: the names as they were -/
theorem Rel.join {ρ' : Env'} {S' : Store} {F' : Hp} {ι' : List Addr} {σ' : L2.St} {H' : Hp} {Pr0 : Hp} (R : Rel p Pr0 ρ S F ι α σ H) (R' : Rel p Pr ρ' S' F' ι' α σ' H') (l : LeH F F') (m : LeA ι ι') (h : ∀ (i : Nat) (e : D), ρ[i]? = some (Slot.own e) → ρ'[i]? = some (Slot.own e)) : Rel p Pr ρ S' F' ι' α σ H' where
  wd := R'.wd
  fz := fun i d k => let ⟨v, h1, h2⟩ := R.fz i d k; ⟨v, h1, h2.le l m⟩
  own := fun i d k => by
    obtain ⟨_, h2, h3, h4, h5⟩ := R'.own i d (h i d k)
    exact ⟨(R.own i d k).1, h2, h3, h4, h5⟩
  lng := R.lng
  inj := R.inj
/-- what is guarded as a list is nothing else's -/
theorem Rel.alone {vs : List V} (R : Rel p (upd Pr a (.lst vs)) ρ S F ι α σ H) : H a = some (.lst vs) ∧ F a = none ∧ a ∉ ι ∧ ∀ j e, ρ[j]? = some (.own e) → α j ≠ a := by
  obtain ⟨h1, h2, h3⟩ := R.wd.prot a _ upd_same
  refine ⟨h1, h2.resolve_right id, fun hm => ?_, fun j e hj z => ?_⟩
  · obtain ⟨n, hn⟩ := List.getElem?_of_mem hm
    have hl : n < S.length := by rw [← R.wd.len]; exact (List.getElem?_eq_some_iff.mp hn).1
    obtain ⟨d, hd⟩ := h3 n S[n] hn (List.getElem?_eq_getElem hl)
    obtain ⟨_, q⟩ := R.wd.cell n S[n] a (List.getElem?_eq_getElem hl) hn
    rw [hd] at q
    obtain ⟨ob, o, q⟩ := LRep.there q
    rw [h1] at q; cases q
  · have := (R.own j e hj).2.2.2.2
    rw [z, upd_same] at this; cases this
theorem Rel.reguard {vs ws : List V} (R : Rel p (upd Pr a (.lst vs)) ρ S F ι α σ H) : Rel p (upd Pr a (.lst ws)) ρ S F ι α σ (upd H a (.lst ws)) := by
  obtain ⟨h1, h2, h3, h4⟩ := R.alone
  exact {
    wd := {
      sub := fun b u e => by
        have hb : b ≠ a := fun z => by rw [z, h2] at e; cases e
        rcases R.wd.sub b u e with h | ⟨k, ob, h⟩
        · exact .inl (by rw [upd_ne hb]; exact h)
        · exact .inr ⟨k, ob, by rw [upd_ne hb]; exact h⟩
      con := R.wd.con
      len := R.wd.len
      nd := R.wd.nd
      cell := fun m c' b k1 k2 => by
        obtain ⟨q1, q2⟩ := R.wd.cell m c' b k1 k2
        exact ⟨q1, q2.le (LeH.refl _) (LeA.refl _) (upd_ne fun z => h3 (by rw [← z]; exact List.mem_of_getElem? k2))⟩
      prot := fun b u h => by
        by_cases hb : b = a
        · subst hb
          rw [upd_same] at h; cases h
          exact ⟨upd_same, .inl h2, fun n c k _ => absurd (List.mem_of_getElem? k) h3⟩
        · rw [upd_ne hb] at h
          obtain ⟨q1, q2, q3⟩ := R.wd.prot b u (by rw [upd_ne hb]; exact h)
          exact ⟨by rw [upd_ne hb]; exact q1, q2, q3⟩ }
    fz := R.fz
    own := fun i d h => by
      obtain ⟨k1, k2, k3, k4, k5⟩ := R.own i d h
      exact ⟨k1, k2, k3, k4.le (LeH.refl _) (LeA.refl _) (upd_ne (h4 i d h)), by rw [upd_ne (h4 i d h)] at k5 ⊢; exact k5⟩
    lng := R.lng
    inj := R.inj }
end

section
variable {p : Pg} {N : List Str} {sc : Scope} {fn : Str → Bool} {k : Nat} {X : Cx} {G : Fns} {ρ : Env'} {S : Store} {tg iter elt : Expr} {pos : Pos}
abbrev blkX (X : Cx) (scope : Scope) (s : Shared) (H : Hp) (C : Addr) (cl : List (Str × Addr)) (fp : List Addr) : Cx := X.blk s H scope (compEnvC scope cl C X.env) fp
abbrev fnB (scope : Scope) : Str → Bool := fun x => scope.names.lookup x == some .cell
theorem good_blk {scope : Scope} (g : Good p N sc fn k X) (s : Shared) (H : Hp) (C : Addr) (cl : List (Str × Addr)) (fp : List Addr) : Good p N (relS scope sc) (fnB scope) k (blkX X scope s H C cl fp) where
  pg := g.pg
  calm := g.calm
  hN := g.hN
  nd := g.nd
  sc := by
    show relabel scope X.env = _
    unfold relabel relS Env.kindOf
    rw [g.sc]
  fn := rfl
  xe := rfl
  room := g.room
  grd := g.grd
/-- one filter or none -/
inductive FC (p : Pg) (G : Fns) : (∀ _ : Cx, Prop) → List Expr → Ar → Prop
  | nil {B : Cx → Prop} : FC p G B [] .nil
  | one {B : Cx → Prop} {e : Expr} {c : Ex} : (∀ X, B X → ∀ ρ S, FT p X ρ S e (evE G c ρ S)) → FC p G B [e] (.cons c .nil)
theorem comp_core {scope : Scope} {t : Tg} {it : It} {c : Ar} {e : Ex} {ifs : List Expr} {own : List (Str × Nat)} (g : Good p N sc fn k X) (hi : FI p X ρ S tg iter (evI G it ρ S)) (ok : BlkOk N sc scope own) (hix : own.map (·.2) = t.ix)
    (hg : ∀ X', Good p N (relS scope sc) (fnB scope) k X' → FG p X' t tg) (hc : FC p G (Good p N (relS scope sc) (fnB scope) k) ifs c) (he : ∀ X', Good p N (relS scope sc) (fnB scope) k X' → ∀ ρ S, FE p X' ρ S elt (evE G e ρ S)) :
    ∃ gT tt tE, (∀ s H0 C cl fp, PG (blkX X scope s H0 C cl fp) tg gT) ∧ (∀ s H0 C cl fp, PTs (blkX X scope s H0 C cl fp) ifs tt) ∧ (∀ s H0 C cl fp, PE (blkX X scope s H0 C cl fp) elt tE) ∧
      ∀ Pr F ι α σ H, Rel p Pr ρ S F ι α σ H → ∀ d S', evE G (.comp t it c e) ρ S = some (d, S') → ∀ Q : VK, (∀ a F' ι' H', Rel p Pr ρ S' F' ι' α σ H' → LeH F F' → LeA ι ι' → Fr p Pr ρ F' ι' α H' a d → Q (.ref a) H') →
        tLc (wI X tg iter) gT tt tE (own.map (·.2)) σ H fun x H1 => Unl X (Q x) H1 := by
  have hN : X.N.Nodup := by rw [g.hN]; exact g.nd
  have gB := fun s H C cl fp => good_blk (scope := scope) g s H C cl fp
  have okX : BlkOk X.N X.env.scope scope own := by rw [g.hN, g.sc]; exact ok
  -- the readings over all blocks
  let gT : TG := fun v σ H Q => ∀ s H0 C cl fp, wG (blkX X scope s H0 C cl fp) tg v σ H Q
  let tE : TE := fun σ H Q => ∀ s H0 C cl fp, wE (blkX X scope s H0 C cl fp) elt σ H Q
  have pg : ∀ s H0 C cl fp, PG (blkX X scope s H0 C cl fp) tg gT := fun s H0 C cl fp => ⟨fun pins s' σ H v u Q I r h => pgW.run pins s' σ H v u Q I r (h s H0 C cl fp)⟩
  have pe : ∀ s H0 C cl fp, PE (blkX X scope s H0 C cl fp) elt tE := fun s H0 C cl fp => ⟨fun pins s' σ H Q I h => peW.run pins s' σ H Q I (h s H0 C cl fp)⟩
  have ct : ∃ tt : TT, (∀ s H0 C cl fp, PTs (blkX X scope s H0 C cl fp) ifs tt) ∧ ∀ {Pr ρ' S F ι α σ H}, Rel p Pr ρ' S F ι α σ H → ∀ {b S'}, (match (motive := Ar → Option (Bool × Store)) c with
        | .nil => some (true, S)
        | .cons c _ => (evE G c ρ' S).bind fun q => (blOf q.1).map fun b => (b, q.2)) = some (b, S') →
      ∀ Q : Bool → Hp → Prop, (∀ F' ι' H', Rel p Pr ρ' S' F' ι' α σ H' → LeH F F' → LeA ι ι' → Q b H') → tt σ H Q := by
    cases hc with
    | nil =>
      refine ⟨tYes, fun s H0 C cl fp => pts_nil, fun {Pr ρ' S F ι α σ H} R b S' e Q q => ?_⟩
      cases e
      exact q F ι H R (LeH.refl _) (LeA.refl _)
    | @one e' c' h =>
      refine ⟨fun σ H Q => ∀ s H0 C cl fp, wT (blkX X scope s H0 C cl fp) e' σ H Q, fun s H0 C cl fp => pts_one ⟨fun pins s' σ H Q I h => ptW.run pins s' σ H Q I (h s H0 C cl fp)⟩, fun {Pr ρ' S F ι α σ H} R b S' e Q q s H0 C cl fp => ?_⟩
      obtain ⟨⟨u, S5⟩, h1, h2⟩ := Option.bind_eq_some_iff.mp e
      obtain ⟨b', h3, h4⟩ := Option.map_eq_some_iff.mp h2
      cases h4
      cases blOf_eq h3
      exact h _ (gB s H0 C cl fp) ρ' S Pr F ι α σ H R _ _ h1 Q q
  obtain ⟨tt, pt, ht⟩ := ct
  refine ⟨gT, tt, tE, pg, pt, pe, ?_⟩
  intro Pr F ι α σ H R d S' er Q q
  rw [evE] at er
  split at er
  case isFalse => cases er
  rename_i no
  obtain ⟨⟨w, xs, S1⟩, e1, er⟩ := Option.bind_eq_some_iff.mp er
  obtain ⟨⟨S2, lk⟩, e2, er⟩ := Option.bind_eq_some_iff.mp er
  obtain ⟨⟨ys, S3⟩, e3, er⟩ := Option.bind_eq_some_iff.mp er
  obtain ⟨S4, e4, er⟩ := Option.bind_eq_some_iff.mp er
  split at er
  case isFalse => cases er
  rename_i hz
  cases er
  refine hi Pr F ι α σ H R w xs S1 e1 S2 lk e2 _ fun J v u Lk F1 ι1 H1 R1 l1 m1 hr c1 wk fo sb => fun D hD => ?_
  obtain ⟨Ra, fa⟩ := R1.alloc (d := .lst []) (o := .lst []) hD fun G g => ⟨[], g, .nil⟩
  have Rb := Ra.guard (a := D) (o := .lst []) upd_same (.inl fa.nf) (fun n c h _ => absurd (List.mem_of_getElem? h) fa.ni) fa.no
  have prL := fa.np
  have prD : Pr D = none := by
    cases z : Pr D with
    | none => rfl
    | some o => rw [sb D o z] at prL; cases prL
  obtain ⟨W, hW⟩ : ∃ W : Nat → Nat → Hp → Prop, W = fun i m H => m = xs.length - i ∧ i ≤ xs.length ∧ ∃ S F ι acc vs rest, Rel p (upd (lkP Pr Lk) D (.lst vs)) ρ S F ι α σ H ∧ LeH F1 F ∧ LeA ι1 ι ∧ Reps p.K F ι vs acc ∧ cont ρ S w = some u ∧
      compGo (fun S' => cont ρ S' w = cont ρ S2 w) (fun d S' => (bindT t d (wipeS ρ t.ix)).bind fun ρ' => match c with
        | .nil => (evE G e ρ' S').map fun r => (some r.1, r.2)
        | .cons c _ => (evE G c ρ' S').bind fun q => (blOf q.1).bind fun b => if b then (evE G e ρ' q.2).map fun r => (some r.1, r.2) else some (none, q.2)) (xs.drop i) S = some (rest, S3) ∧ ys = acc ++ rest := ⟨_, rfl⟩
  refine ⟨W, ⟨xs.length - 0, by rw [hW]; exact ⟨rfl, Nat.zero_le _, S2, F1, ι1, [], [], ys, Rb, LeH.refl _, LeA.refl _, .nil, c1, e3, rfl⟩⟩, ?_⟩
  intro i m H2 hw
  rw [hW] at hw
  obtain ⟨hm, hi2, S, F2, ι2, acc, vs, rest, R2, l2, m2, rs, cc, eg, ey⟩ := hw
  have cv := cv_of R2 (hr.le l2 m2) cc
  have lkk : LkOk H2 Lk := by
    cases Lk with
    | none => trivial
    | some q =>
      have : q.1 ≠ D := fun z => by
        have := prL
        show False
        rw [← z] at this
        change upd Pr q.1 q.2 q.1 = none at this
        rw [upd_same] at this; cases this
      refine (R2.wd.prot q.1 q.2 ?_).1
      rw [upd_ne this]
      exact upd_same
  cases hx : xs[i]? with
  | none =>
    have hlen : xs.length ≤ i := List.getElem?_eq_none_iff.mp hx
    have : i = xs.length := by omega
    subst this
    refine .inl ⟨wk.stop R2.wd l2 m2 cv lkk, ?_⟩
    rw [List.drop_length] at eg
    cases eg
    rw [List.append_nil] at ey
    subst ey
    obtain ⟨a1, a2, a3, a4⟩ := R2.alone
    have R3 := R2.weak (Pr := lkP Pr Lk) fun b o z => by
      rw [upd_ne fun y => by rw [y, prL] at z; cases z]; exact z
    obtain ⟨H3, R4, k1, k2⟩ := fo R3 l2 m2 e4
    refine k2 _ (q D F2 ι2 H3 R4 (l1.trans l2) (m1.trans m2) ⟨⟨vs, k1 _ _ a1 (fun _ _ z => by cases z), rs⟩, a2, a3, prD, a4⟩)
  | some d =>
    have hil : i < xs.length := (List.getElem?_eq_some_iff.mp hx).1
    have hdrop : xs.drop i = d :: xs.drop (i + 1) := by
      rw [List.drop_eq_getElem_cons hil]
      congr 1
      have := List.getElem?_eq_some_iff.mp hx
      exact this.2
    rw [hdrop] at eg
    simp only [compGo] at eg
    obtain ⟨⟨od, S5⟩, f1, eg⟩ := Option.bind_eq_some_iff.mp eg
    split at eg
    case isFalse => cases eg
    rename_i kp
    obtain ⟨⟨rest', S6⟩, f2, f3⟩ := Option.map_eq_some_iff.mp eg
    cases f3
    obtain ⟨go, yl⟩ := wk.step hx R2.wd l2 m2 cv lkk
    refine .inr ⟨go, W (i + 1) (m - 1), fun H' h => ⟨m - 1, by omega, h⟩, fun x H' y => ?_⟩
    obtain ⟨F3, gr, rx⟩ := yl x H' y
    have R3 := R2.grow gr
    obtain ⟨ρ', f4, f5⟩ := Option.bind_eq_some_iff.mp f1
    rw [hix]
    intro s H0 C cl fp
    refine hg _ (gB s H0 C cl fp) (R3.wipe t.ix) rx f4 _ fun σ2 R4 w2 => ?_
    refine ⟨(w2 _ fun i hi => hi).trans (wipe_wipe _ _), ?_⟩
    -- back to the names around
    have back : ∀ {S' F' ι' H' vs'}, Rel p (upd (lkP Pr Lk) D (.lst vs')) ρ' S' F' ι' α σ2 H' → LeH F3 F' → LeA ι2 ι' → Rel p (upd (lkP Pr Lk) D (.lst vs')) ρ S' F' ι' α σ H' := fun R' l m =>
      R3.join R' l m fun i e he => bindT_own f4 no he
    have mk : ∀ {F' ι' H' vs' acc'}, Rel p (upd (lkP Pr Lk) D (.lst vs')) ρ S5 F' ι' α σ H' → LeH F3 F' → LeA ι2 ι' → Reps p.K F' ι' vs' acc' → ys = acc' ++ rest' → W (i + 1) (m - 1) H' := fun {F' ι' H' vs' acc'} R' l m r h => by
      rw [hW]
      exact ⟨by omega, hil, S5, F', ι', acc', vs', rest', R', (l2.trans gr.f).trans l, m2.trans m, r, by rw [kp]; exact c1, f2, h⟩
    have one : ∀ {S0 F5 ι5 H5 y S7}, Rel p (upd (lkP Pr Lk) D (.lst vs)) ρ' S0 F5 ι5 α σ2 H5 → LeH F3 F5 → LeA ι2 ι5 → evE G e ρ' S0 = some (y, S7) → od = some y → S5 = S7 → tE σ2 H5 fun yv H6 => ∃ acc, H6 D = some (.lst acc) ∧ acc.length < sizeLine ∧ W (i + 1) (m - 1) (upd H6 D (.lst (acc ++ [yv]))) := fun {S0 F5 ι5 H5 y S7} R5 l5 m5 f6 hod hS s H0 C cl fp => by
      subst hod hS
      refine he _ (gB s H0 C cl fp) ρ' S0 _ F5 ι5 α σ2 H5 R5 _ _ f6 _ fun yv F6 ι6 H6 R6 l6 m6 ry => ?_
      have rs6 := rs.le ((gr.f.trans l5).trans l6) (m5.trans m6)
      have ey : ys = acc ++ [y] ++ rest' := by rw [ey, List.append_assoc]; rfl
      refine ⟨vs, R6.alone.1, ?_, mk (back R6 (l5.trans l6) (m5.trans m6)).reguard (l5.trans l6) (m5.trans m6) (rs6.app (.cons ry .nil)) ey⟩
      have : ys.length ≤ sizeLine := hz
      rw [ey] at this
      simp only [List.length_append, List.length_singleton] at this
      rw [rs6.length]; omega
    cases c with
    | nil =>
      obtain ⟨⟨y', S7⟩, f6, f7⟩ := Option.map_eq_some_iff.mp f5
      cases f7
      refine ht R4 (b := true) rfl _ fun F5 ι5 H5 R5 l5 m5 => ?_
      rw [if_pos rfl]
      exact one R5 l5 m5 f6 rfl rfl
    | cons c' cr =>
      obtain ⟨⟨bq, S7⟩, f6, f7⟩ := Option.bind_eq_some_iff.mp f5
      obtain ⟨b, f8, f9⟩ := Option.bind_eq_some_iff.mp f7
      refine ht R4 (b := b) (S' := S7) (by simp only [f6, Option.bind_some, f8, Option.map_some]) _ fun F5 ι5 H5 R5 l5 m5 => ?_
      by_cases hb : b = true
      · rw [if_pos hb] at f9 ⊢
        obtain ⟨⟨y', S8⟩, f10, f11⟩ := Option.map_eq_some_iff.mp f9
        cases f11
        exact one R5 l5 m5 f10 rfl rfl
      · rw [if_neg hb] at f9 ⊢
        cases f9
        exact mk (back R5 l5 m5) l5 m5 (rs.le (gr.f.trans l5) m5) ey
theorem fn_comp {scope : Scope} {t : Tg} {it : It} {c : Ar} {e : Ex} {ifs : List Expr} {own : List (Str × Nat)} (g : Good p N sc fn k X) (hi : FI p X ρ S tg iter (evI G it ρ S)) (ok : BlkOk N sc scope own) (hix : own.map (·.2) = t.ix)
    (hg : ∀ X', Good p N (relS scope sc) (fnB scope) k X' → FG p X' t tg) (hc : FC p G (Good p N (relS scope sc) (fnB scope) k) ifs c) (he : ∀ X', Good p N (relS scope sc) (fnB scope) k X' → ∀ ρ S, FE p X' ρ S elt (evE G e ρ S))
    (hs : ∀ x, foldedSetIterable iter X.env x = pure x) : FN p X ρ S (.ListComp elt [⟨tg, iter, ifs, 0⟩] scope pos) (evE G (.comp t it c e) ρ S) := by
  obtain ⟨gT, tt, tE, pg, pt, pe, h⟩ := comp_core g hi ok hix hg hc he
  intro Pr F ι α σ H R d S' er Q q
  exact wE_unl (wE_of (pe_lc (own := own) g.calm (by rw [g.hN]; exact g.nd) piW (by rw [g.hN, g.sc]; exact ok) pg pt pe hs) (h Pr F ι α σ H R d S' er Q q))
end
end Z

set_option Elab.async false
set_option linter.all false
set_option maxRecDepth 100000
set_option maxHeartbeats 4000000
namespace Z
open PySem PySem.Spec PyProof.Rows L2
section
variable {p : Pg} {Pr : Hp} {ρ : Env'} {S : Store} {F : Hp} {ι : List Addr} {α : Nat → Addr} {σ : L2.St} {H : Hp} {a : Addr} {d : D}
/-- what is guarded as a dict is nothing else's -/
theorem Rel.aloneK {vs : List (Key × V)} (R : Rel p (upd Pr a (.dK vs)) ρ S F ι α σ H) : H a = some (.dK vs) ∧ F a = none ∧ a ∉ ι ∧ ∀ j e, ρ[j]? = some (.own e) → α j ≠ a := by
  obtain ⟨h1, h2, h3⟩ := R.wd.prot a _ upd_same
  refine ⟨h1, h2.resolve_right id, fun hm => ?_, fun j e hj z => ?_⟩
  · obtain ⟨n, hn⟩ := List.getElem?_of_mem hm
    have hl : n < S.length := by rw [← R.wd.len]; exact (List.getElem?_eq_some_iff.mp hn).1
    obtain ⟨d, hd⟩ := h3 n S[n] hn (List.getElem?_eq_getElem hl)
    obtain ⟨_, q⟩ := R.wd.cell n S[n] a (List.getElem?_eq_getElem hl) hn
    rw [hd] at q
    obtain ⟨ob, o, q⟩ := LRep.there q
    rw [h1] at q; cases q
  · have := (R.own j e hj).2.2.2.2
    rw [z, upd_same] at this; cases this
theorem Rel.reguardK {vs ws : List (Key × V)} (R : Rel p (upd Pr a (.dK vs)) ρ S F ι α σ H) : Rel p (upd Pr a (.dK ws)) ρ S F ι α σ (upd H a (.dK ws)) := by
  obtain ⟨h1, h2, h3, h4⟩ := R.aloneK
  exact {
    wd := {
      sub := fun b u e => by
        have hb : b ≠ a := fun z => by rw [z, h2] at e; cases e
        rcases R.wd.sub b u e with h | ⟨k, ob, h⟩
        · exact .inl (by rw [upd_ne hb]; exact h)
        · exact .inr ⟨k, ob, by rw [upd_ne hb]; exact h⟩
      con := R.wd.con
      len := R.wd.len
      nd := R.wd.nd
      cell := fun m c' b k1 k2 => by
        obtain ⟨q1, q2⟩ := R.wd.cell m c' b k1 k2
        exact ⟨q1, q2.le (LeH.refl _) (LeA.refl _) (upd_ne fun z => h3 (by rw [← z]; exact List.mem_of_getElem? k2))⟩
      prot := fun b u h => by
        by_cases hb : b = a
        · subst hb
          rw [upd_same] at h; cases h
          exact ⟨upd_same, .inl h2, fun n c k _ => absurd (List.mem_of_getElem? k) h3⟩
        · rw [upd_ne hb] at h
          obtain ⟨q1, q2, q3⟩ := R.wd.prot b u (by rw [upd_ne hb]; exact h)
          exact ⟨by rw [upd_ne hb]; exact q1, q2, q3⟩ }
    fz := R.fz
    own := fun i d h => by
      obtain ⟨k1, k2, k3, k4, k5⟩ := R.own i d h
      exact ⟨k1, k2, k3, k4.le (LeH.refl _) (LeA.refl _) (upd_ne (h4 i d h)), by rw [upd_ne (h4 i d h)] at k5 ⊢; exact k5⟩
    lng := R.lng
    inj := R.inj }
end
section
variable {p : Pg} {N : List Str} {sc : Scope} {fn : Str → Bool} {k : Nat} {X : Cx} {G : Fns} {ρ : Env'} {S : Store} {tg iter kx vx : Expr} {pos : Pos}
theorem dcomp_core {scope : Scope} {t : Tg} {it : It} {c : Ar} {ek ev : Ex} {ifs : List Expr} {own : List (Str × Nat)} (g : Good p N sc fn k X) (hi : FI p X ρ S tg iter (evI G it ρ S)) (ok : BlkOk N sc scope own) (hix : own.map (·.2) = t.ix)
    (hg : ∀ X', Good p N (relS scope sc) (fnB scope) k X' → FG p X' t tg) (hc : FC p G (Good p N (relS scope sc) (fnB scope) k) ifs c) (hek : ∀ X', Good p N (relS scope sc) (fnB scope) k X' → ∀ ρ S, FE p X' ρ S kx (evE G ek ρ S)) (hev : ∀ X', Good p N (relS scope sc) (fnB scope) k X' → ∀ ρ S, FE p X' ρ S vx (evE G ev ρ S)) :
    ∃ gT tt tK tE, (∀ s H0 C cl fp, PG (blkX X scope s H0 C cl fp) tg gT) ∧ (∀ s H0 C cl fp, PTs (blkX X scope s H0 C cl fp) ifs tt) ∧ (∀ s H0 C cl fp, PE (blkX X scope s H0 C cl fp) kx tK) ∧ (∀ s H0 C cl fp, PE (blkX X scope s H0 C cl fp) vx tE) ∧
      ∀ Pr F ι α σ H, Rel p Pr ρ S F ι α σ H → ∀ d S', evE G (.dcomp t it c ek ev) ρ S = some (d, S') → ∀ Q : VK, (∀ a F' ι' H', Rel p Pr ρ S' F' ι' α σ H' → LeH F F' → LeA ι ι' → Fr p Pr ρ F' ι' α H' a d → Q (.ref a) H') →
        tDc (wI X tg iter) gT tt tK tE (own.map (·.2)) σ H fun x H1 => Unl X (Q x) H1 := by
  have hN : X.N.Nodup := by rw [g.hN]; exact g.nd
  have gB := fun s H C cl fp => good_blk (scope := scope) g s H C cl fp
  have okX : BlkOk X.N X.env.scope scope own := by rw [g.hN, g.sc]; exact ok
  -- the readings over all blocks
  let gT : TG := fun v σ H Q => ∀ s H0 C cl fp, wG (blkX X scope s H0 C cl fp) tg v σ H Q
  let tK : TE := fun σ H Q => ∀ s H0 C cl fp, wE (blkX X scope s H0 C cl fp) kx σ H Q
  let tE : TE := fun σ H Q => ∀ s H0 C cl fp, wE (blkX X scope s H0 C cl fp) vx σ H Q
  have pg : ∀ s H0 C cl fp, PG (blkX X scope s H0 C cl fp) tg gT := fun s H0 C cl fp => ⟨fun pins s' σ H v u Q I r h => pgW.run pins s' σ H v u Q I r (h s H0 C cl fp)⟩
  have pk : ∀ s H0 C cl fp, PE (blkX X scope s H0 C cl fp) kx tK := fun s H0 C cl fp => ⟨fun pins s' σ H Q I h => peW.run pins s' σ H Q I (h s H0 C cl fp)⟩
  have pe : ∀ s H0 C cl fp, PE (blkX X scope s H0 C cl fp) vx tE := fun s H0 C cl fp => ⟨fun pins s' σ H Q I h => peW.run pins s' σ H Q I (h s H0 C cl fp)⟩
  have ct : ∃ tt : TT, (∀ s H0 C cl fp, PTs (blkX X scope s H0 C cl fp) ifs tt) ∧ ∀ {Pr ρ' S F ι α σ H}, Rel p Pr ρ' S F ι α σ H → ∀ {b S'}, (match (motive := Ar → Option (Bool × Store)) c with
        | .nil => some (true, S)
        | .cons c _ => (evE G c ρ' S).bind fun q => (blOf q.1).map fun b => (b, q.2)) = some (b, S') →
      ∀ Q : Bool → Hp → Prop, (∀ F' ι' H', Rel p Pr ρ' S' F' ι' α σ H' → LeH F F' → LeA ι ι' → Q b H') → tt σ H Q := by
    cases hc with
    | nil =>
      refine ⟨tYes, fun s H0 C cl fp => pts_nil, fun {Pr ρ' S F ι α σ H} R b S' e Q q => ?_⟩
      cases e
      exact q F ι H R (LeH.refl _) (LeA.refl _)
    | @one e' c' h =>
      refine ⟨fun σ H Q => ∀ s H0 C cl fp, wT (blkX X scope s H0 C cl fp) e' σ H Q, fun s H0 C cl fp => pts_one ⟨fun pins s' σ H Q I h => ptW.run pins s' σ H Q I (h s H0 C cl fp)⟩, fun {Pr ρ' S F ι α σ H} R b S' e Q q s H0 C cl fp => ?_⟩
      obtain ⟨⟨u, S5⟩, h1, h2⟩ := Option.bind_eq_some_iff.mp e
      obtain ⟨b', h3, h4⟩ := Option.map_eq_some_iff.mp h2
      cases h4
      cases blOf_eq h3
      exact h _ (gB s H0 C cl fp) ρ' S Pr F ι α σ H R _ _ h1 Q q
  obtain ⟨tt, pt, ht⟩ := ct
  refine ⟨gT, tt, tK, tE, pg, pt, pk, pe, ?_⟩
  intro Pr F ι α σ H R d S' er Q q
  rw [evE] at er
  split at er
  case isFalse => cases er
  rename_i no
  obtain ⟨⟨w, xs, S1⟩, e1, er⟩ := Option.bind_eq_some_iff.mp er
  obtain ⟨⟨S2, lk⟩, e2, er⟩ := Option.bind_eq_some_iff.mp er
  obtain ⟨⟨ys, S3⟩, e3, er⟩ := Option.bind_eq_some_iff.mp er
  obtain ⟨S4, e4, er⟩ := Option.bind_eq_some_iff.mp er
  split at er
  case isFalse => cases er
  rename_i hz
  obtain ⟨fin, e5, er⟩ := Option.map_eq_some_iff.mp er
  cases er
  refine hi Pr F ι α σ H R w xs S1 e1 S2 lk e2 _ fun J v u Lk F1 ι1 H1 R1 l1 m1 hr c1 wk fo sb => fun D hD => ?_
  obtain ⟨Ra, fa⟩ := R1.alloc (d := .dK []) (o := .dK []) hD fun G g => ⟨[], g, rfl, .nil⟩
  have Rb := Ra.guard (a := D) (o := .dK []) upd_same (.inl fa.nf) (fun n c h _ => absurd (List.mem_of_getElem? h) fa.ni) fa.no
  have prL := fa.np
  have prD : Pr D = none := by
    cases z : Pr D with
    | none => rfl
    | some o => rw [sb D o z] at prL; cases prL
  obtain ⟨W, hW⟩ : ∃ W : Nat → Nat → Hp → Prop, W = fun i m H => m = xs.length - i ∧ i ≤ xs.length ∧ ∃ S F ι acc vs rest, Rel p (upd (lkP Pr Lk) D (.dK vs)) ρ S F ι α σ H ∧ LeH F1 F ∧ LeA ι1 ι ∧ RKV p.K F ι vs acc ∧ cont ρ S w = some u ∧
      compGo (fun S' => cont ρ S' w = cont ρ S2 w) (fun d S' => (bindT t d (wipeS ρ t.ix)).bind fun ρ' => match c with
        | .nil => (evE G ek ρ' S').bind fun r => (evE G ev ρ' r.2).map fun q => (some (.tup [r.1, q.1]), q.2)
        | .cons c _ => (evE G c ρ' S').bind fun q => (blOf q.1).bind fun b => if b then (evE G ek ρ' q.2).bind fun r => (evE G ev ρ' r.2).map fun q => (some (.tup [r.1, q.1]), q.2) else some (none, q.2)) (xs.drop i) S = some (rest, S3) ∧ mkd rest acc = some fin ∧ acc.length + rest.length ≤ sizeLine := ⟨_, rfl⟩
  refine ⟨W, ⟨xs.length - 0, by rw [hW]; exact ⟨rfl, Nat.zero_le _, S2, F1, ι1, [], [], ys, Rb, LeH.refl _, LeA.refl _, .nil, c1, e3, e5, by simpa using hz⟩⟩, ?_⟩
  intro i m H2 hw
  rw [hW] at hw
  obtain ⟨hm, hi2, S, F2, ι2, acc, vs, rest, R2, l2, m2, rs, cc, eg, em, ez⟩ := hw
  have cv := cv_of R2 (hr.le l2 m2) cc
  have lkk : LkOk H2 Lk := by
    cases Lk with
    | none => trivial
    | some q =>
      have : q.1 ≠ D := fun z => by
        have := prL
        show False
        rw [← z] at this
        change upd Pr q.1 q.2 q.1 = none at this
        rw [upd_same] at this; cases this
      refine (R2.wd.prot q.1 q.2 ?_).1
      rw [upd_ne this]
      exact upd_same
  cases hx : xs[i]? with
  | none =>
    have hlen : xs.length ≤ i := List.getElem?_eq_none_iff.mp hx
    have : i = xs.length := by omega
    subst this
    refine .inl ⟨wk.stop R2.wd l2 m2 cv lkk, ?_⟩
    rw [List.drop_length] at eg
    cases eg
    cases em
    obtain ⟨a1, a2, a3, a4⟩ := R2.aloneK
    have R3 := R2.weak (Pr := lkP Pr Lk) fun b o z => by
      rw [upd_ne fun y => by rw [y, prL] at z; cases z]; exact z
    obtain ⟨H3, R4, k1, k2⟩ := fo R3 l2 m2 e4
    refine k2 _ (q D F2 ι2 H3 R4 (l1.trans l2) (m1.trans m2) ⟨⟨vs, k1 _ _ a1 (fun _ _ z => by cases z), rs.1, rs.2⟩, a2, a3, prD, a4⟩)
  | some d =>
    have hil : i < xs.length := (List.getElem?_eq_some_iff.mp hx).1
    have hdrop : xs.drop i = d :: xs.drop (i + 1) := by
      rw [List.drop_eq_getElem_cons hil]
      congr 1
      have := List.getElem?_eq_some_iff.mp hx
      exact this.2
    rw [hdrop] at eg
    simp only [compGo] at eg
    obtain ⟨⟨od, S5⟩, f1, eg⟩ := Option.bind_eq_some_iff.mp eg
    split at eg
    case isFalse => cases eg
    rename_i kp
    obtain ⟨⟨rest', S6⟩, f2, f3⟩ := Option.map_eq_some_iff.mp eg
    cases f3
    obtain ⟨go, yl⟩ := wk.step hx R2.wd l2 m2 cv lkk
    refine .inr ⟨go, W (i + 1) (m - 1), fun H' h => ⟨m - 1, by omega, h⟩, fun x H' y => ?_⟩
    obtain ⟨F3, gr, rx⟩ := yl x H' y
    have R3 := R2.grow gr
    obtain ⟨ρ', f4, f5⟩ := Option.bind_eq_some_iff.mp f1
    rw [hix]
    intro s H0 C cl fp
    refine hg _ (gB s H0 C cl fp) (R3.wipe t.ix) rx f4 _ fun σ2 R4 w2 => ?_
    refine ⟨(w2 _ fun i hi => hi).trans (wipe_wipe _ _), ?_⟩
    -- back to the names around
    have back : ∀ {S' F' ι' H' vs'}, Rel p (upd (lkP Pr Lk) D (.dK vs')) ρ' S' F' ι' α σ2 H' → LeH F3 F' → LeA ι2 ι' → Rel p (upd (lkP Pr Lk) D (.dK vs')) ρ S' F' ι' α σ H' := fun R' l m =>
      R3.join R' l m fun i e he => bindT_own f4 no he
    have mk : ∀ {F' ι' H' vs' acc'}, Rel p (upd (lkP Pr Lk) D (.dK vs')) ρ S5 F' ι' α σ H' → LeH F3 F' → LeA ι2 ι' → RKV p.K F' ι' vs' acc' → mkd rest' acc' = some fin → acc'.length + rest'.length ≤ sizeLine → W (i + 1) (m - 1) H' := fun {F' ι' H' vs' acc'} R' l m r h h' => by
      rw [hW]
      exact ⟨by omega, hil, S5, F', ι', acc', vs', rest', R', (l2.trans gr.f).trans l, m2.trans m, r, by rw [kp]; exact c1, f2, h, h'⟩
    have one : ∀ {S0 F5 ι5 H5 y S7 y2 S8}, Rel p (upd (lkP Pr Lk) D (.dK vs)) ρ' S0 F5 ι5 α σ2 H5 → LeH F3 F5 → LeA ι2 ι5 → evE G ek ρ' S0 = some (y, S7) → evE G ev ρ' S7 = some (y2, S8) → od = some (.tup [y, y2]) → S5 = S8 → tK σ2 H5 fun yv H6 => tE σ2 H6 fun zv H7 => ∃ acc k, yv = kV k ∧ H7 D = some (.dK acc) ∧ acc.length < sizeLine ∧ W (i + 1) (m - 1) (upd H7 D (.dK (putK acc k zv))) := fun {S0 F5 ι5 H5 y S7 y2 S8} R5 l5 m5 f6 f7 hod hS s H0 C cl fp => by
      subst hod hS
      refine hek _ (gB s H0 C cl fp) ρ' S0 _ F5 ι5 α σ2 H5 R5 _ _ f6 _ fun yv F6 ι6 H6 R6 l6 m6 ry => ?_
      intro s' H0' C' cl' fp'
      refine hev _ (gB s' H0' C' cl' fp') ρ' S7 _ F6 ι6 α σ2 H6 R6 _ _ f7 _ fun zv F7 ι7 H7 R7 l7 m7 rz => ?_
      obtain ⟨kk, k1, k2⟩ := Option.bind_eq_some_iff.mp (show (keyK y).bind (fun k => mkd rest' (dput acc k y2)) = some fin from em)
      have rs7 := rs.le (((gr.f.trans l5).trans l6).trans l7) ((m5.trans m6).trans m7)
      have hlen := rs7.len
      have hd := (RKV.put kk rz rs7).len
      have hput := L2.length_putK vs kk zv
      simp only [List.length_cons] at ez
      refine ⟨vs, kk, keyK_rep ry k1, R7.aloneK.1, by omega, mk (back R7 ((l5.trans l6).trans l7) ((m5.trans m6).trans m7)).reguardK ((l5.trans l6).trans l7) ((m5.trans m6).trans m7) (RKV.put kk rz rs7) k2 (by omega)⟩
    cases c with
    | nil =>
      obtain ⟨⟨y', S7⟩, f6, f7⟩ := Option.bind_eq_some_iff.mp f5
      obtain ⟨⟨y2, S8⟩, f8, f9⟩ := Option.map_eq_some_iff.mp f7
      cases f9
      refine ht R4 (b := true) rfl _ fun F5 ι5 H5 R5 l5 m5 => ?_
      rw [if_pos rfl]
      exact one R5 l5 m5 f6 f8 rfl rfl
    | cons c' cr =>
      obtain ⟨⟨bq, S7⟩, f6, f7⟩ := Option.bind_eq_some_iff.mp f5
      obtain ⟨b, f8, f9⟩ := Option.bind_eq_some_iff.mp f7
      refine ht R4 (b := b) (S' := S7) (by simp only [f6, Option.bind_some, f8, Option.map_some]) _ fun F5 ι5 H5 R5 l5 m5 => ?_
      by_cases hb : b = true
      · rw [if_pos hb] at f9 ⊢
        obtain ⟨⟨y', S8⟩, f10, f11⟩ := Option.bind_eq_some_iff.mp f9
        obtain ⟨⟨y2, S9⟩, f12, f13⟩ := Option.map_eq_some_iff.mp f11
        cases f13
        exact one R5 l5 m5 f10 f12 rfl rfl
      · rw [if_neg hb] at f9 ⊢
        cases f9
        exact mk (back R5 l5 m5) l5 m5 (rs.le (gr.f.trans l5) m5) em ez
theorem fn_dcomp {scope : Scope} {t : Tg} {it : It} {c : Ar} {ek ev : Ex} {ifs : List Expr} {own : List (Str × Nat)} (g : Good p N sc fn k X) (hi : FI p X ρ S tg iter (evI G it ρ S)) (ok : BlkOk N sc scope own) (hix : own.map (·.2) = t.ix)
    (hg : ∀ X', Good p N (relS scope sc) (fnB scope) k X' → FG p X' t tg) (hc : FC p G (Good p N (relS scope sc) (fnB scope) k) ifs c) (hek : ∀ X', Good p N (relS scope sc) (fnB scope) k X' → ∀ ρ S, FE p X' ρ S kx (evE G ek ρ S)) (hev : ∀ X', Good p N (relS scope sc) (fnB scope) k X' → ∀ ρ S, FE p X' ρ S vx (evE G ev ρ S))
    (hs : ∀ x, foldedSetIterable iter X.env x = pure x) : FN p X ρ S (.DictComp kx vx [⟨tg, iter, ifs, 0⟩] scope pos) (evE G (.dcomp t it c ek ev) ρ S) := by
  obtain ⟨gT, tt, tK, tE, pg, pt, pk, pe, h⟩ := dcomp_core g hi ok hix hg hc hek hev
  intro Pr F ι α σ H R d S' er Q q
  exact wE_unl (wE_of (pe_dc (own := own) g.calm (by rw [g.hN]; exact g.nd) piW (by rw [g.hN, g.sc]; exact ok) pg pt pk pe hs) (h Pr F ι α σ H R d S' er Q q))
end
end Z

set_option Elab.async false
set_option linter.all false
set_option maxRecDepth 100000
set_option maxHeartbeats 4000000
namespace Z
open PySem PySem.Spec PyProof.Rows L2

/-! # statements -/
def Meets (p : Pg) (Pr F : Hp) (ι : List Addr) (D : Ends) : Out → Prop
  | .nxt ρ S => ∀ F' ι' α' σ' H', Rel p Pr ρ S F' ι' α' σ' H' → LeH F F' → LeA ι ι' → D.nx σ' H'
  | .ret d S => ∀ v F' ι' H', Wd p Pr S F' ι' H' → LeH F F' → LeA ι ι' → Rep p.K F' ι' v d → D.rt v H'
  | .brk ρ S => ∀ F' ι' α' σ' H', Rel p Pr ρ S F' ι' α' σ' H' → LeH F F' → LeA ι ι' → D.bk σ' H'
  | .cnt ρ S => ∀ F' ι' α' σ' H', Rel p Pr ρ S F' ι' α' σ' H' → LeH F F' → LeA ι ι' → D.ct σ' H'
def FS (p : Pg) (X : Cx) (ρ : Env') (S : Store) (st : Stmt) (r : Option Out) : Prop :=
  ∀ Pr F ι α σ H, Rel p Pr ρ S F ι α σ H → ∀ o, r = some o → ∀ D : Ends, Meets p Pr F ι D o → wS X st D σ H
def FSs (p : Pg) (X : Cx) (ρ : Env') (S : Store) (sts : List Stmt) (r : Option Out) : Prop :=
  ∀ Pr F ι α σ H, Rel p Pr ρ S F ι α σ H → ∀ o, r = some o → ∀ D : Ends, Meets p Pr F ι D o → wSs X sts D σ H
theorem Meets.le {p : Pg} {Pr F F' : Hp} {ι ι' : List Addr} {D : Ends} {o : Out} (l : LeH F F') (m : LeA ι ι') (h : Meets p Pr F ι D o) : Meets p Pr F' ι' D o := by
  cases o with
  | nxt ρ S => exact fun F2 ι2 α σ H R l2 m2 => h F2 ι2 α σ H R (l.trans l2) (m.trans m2)
  | ret d S => exact fun v F2 ι2 H W l2 m2 r => h v F2 ι2 H W (l.trans l2) (m.trans m2) r
  | brk ρ S => exact fun F2 ι2 α σ H R l2 m2 => h F2 ι2 α σ H R (l.trans l2) (m.trans m2)
  | cnt ρ S => exact fun F2 ι2 α σ H R l2 m2 => h F2 ι2 α σ H R (l.trans l2) (m.trans m2)
def Rel0 {p : Pg} {Pr : Hp} {S : Store} {F : Hp} {ι : List Addr} {H : Hp} (α : Nat → Addr) (σ : L2.St) (W : Wd p Pr S F ι H) : Rel p Pr [] S F ι α σ H := ⟨W, fun i d h => by simp at h, fun i d h => by simp at h, Nat.zero_le _, fun i j d e h => by simp at h⟩
section
variable {p : Pg} {N : List Str} {sc : Scope} {fn : Str → Bool} {k : Nat} {X : Cx} {G : Fns} {ρ : Env'} {S : Store} {e ea eb ec tg : Expr} {pos : Pos} {a b c : Ex} {st : Stmt} {sts : List Stmt}
/-- behind a loop: the lock off -/
theorem Meets.free {Pr F F1 : Hp} {ι ι1 : List Addr} {D : Ends} {o o' : Out} {Lk : Option (Addr × HO)} {lk : Option (Nat × Z.D)} (fo : FreeOk X p Pr Lk lk F1 ι1) (l : LeH F F1) (m : LeA ι ι1) (e : o.after lk = some o') (h : Meets p Pr F ι D o') :
    Meets p (lkP Pr Lk) F1 ι1 ⟨fun σ' => Unl X (D.nx σ'), fun v => Unl X (D.rt v), fun σ' => Unl X (D.nx σ'), fun σ' => Unl X (D.nx σ')⟩ o := by
  cases o with
  | nxt ρ S =>
    obtain ⟨S', e1, e2⟩ := Option.map_eq_some_iff.mp e
    cases e2
    intro F2 ι2 α σ H R l2 m2
    obtain ⟨H3, R3, _, u⟩ := fo R l2 m2 e1
    exact u _ (h F2 ι2 α σ H3 R3 (l.trans l2) (m.trans m2))
  | ret d S =>
    obtain ⟨S', e1, e2⟩ := Option.map_eq_some_iff.mp e
    cases e2
    intro v F2 ι2 H W l2 m2 r
    obtain ⟨H3, R3, _, u⟩ := fo (Rel0 (fun _ => 0) [] W) l2 m2 e1
    exact u _ (h v F2 ι2 H3 R3.wd (l.trans l2) (m.trans m2) r)
  | brk ρ S =>
    obtain ⟨S', e1, e2⟩ := Option.map_eq_some_iff.mp e
    cases e2
    intro F2 ι2 α σ H R l2 m2
    obtain ⟨H3, R3, _, u⟩ := fo R l2 m2 e1
    exact u _ (h F2 ι2 α σ H3 R3 (l.trans l2) (m.trans m2))
  | cnt ρ S =>
    obtain ⟨S', e1, e2⟩ := Option.map_eq_some_iff.mp e
    cases e2
    intro F2 ι2 α σ H R l2 m2
    obtain ⟨H3, R3, _, u⟩ := fo R l2 m2 e1
    exact u _ (h F2 ι2 α σ H3 R3 (l.trans l2) (m.trans m2))

theorem fss_nil : FSs p X ρ S [] (evSs G .nil ρ S) := by
  intro Pr F ι α σ H R o e D h
  rw [evSs] at e; cases e
  exact wSs_of pss_nil (h F ι α σ H R (LeH.refl _) (LeA.refl _))
theorem fss_cons {s : Sm} {r : Sms} (h1 : FS p X ρ S st (evS G s ρ S)) (h2 : ∀ ρ S, FSs p X ρ S sts (evSs G r ρ S)) : FSs p X ρ S (st :: sts) (evSs G (.cons s r) ρ S) := by
  intro Pr F ι α σ H R o e D h
  rw [evSs] at e
  obtain ⟨o1, e1, e⟩ := Option.bind_eq_some_iff.mp e
  refine wSs_of (pss_cons psW pssW) (h1 Pr F ι α σ H R o1 e1 _ ?_)
  cases o1 with
  | nxt ρ' S' => exact fun F' ι' α' σ' H' R' l m => h2 ρ' S' Pr F' ι' α' σ' H' R' o e _ (h.le l m)
  | ret d S' => cases e; exact h
  | brk ρ' S' => cases e; exact h
  | cnt ρ' S' => cases e; exact h
/-- a name's own container is not changed any more -/
theorem fss_frz {i : Nat} {r : Sms} (h : ∀ ρ S, FSs p X ρ S sts (evSs G r ρ S)) : FSs p X ρ S sts (evSs G (.frz i r) ρ S) := by
  intro Pr F ι α σ H R o e D hD
  rw [evSs] at e
  split at e
  · rename_i d hi
    obtain ⟨k1, k2, k3, k4, k5⟩ := R.own i d hi
    -- the rest without the name
    have R0 : Rel p Pr (ρ.set i .un) S F ι α σ H := {
      wd := R.wd
      fz := fun j e q => by
        rcases getElem?_set_slot q with ⟨_, _, z⟩ | ⟨_, q⟩
        · cases z
        · exact R.fz j e q
      own := fun j e q => by
        rcases getElem?_set_slot q with ⟨_, _, z⟩ | ⟨_, q⟩
        · cases z
        · exact R.own j e q
      lng := by rw [List.length_set]; exact R.lng
      inj := fun j l e e' q1 q2 z => by
        rcases getElem?_set_slot q1 with ⟨_, _, y⟩ | ⟨_, q1⟩
        · cases y
        · rcases getElem?_set_slot q2 with ⟨_, _, y⟩ | ⟨_, q2⟩
          · cases y
          · exact R.inj _ _ _ _ q1 q2 z }
    have f : Fr p Pr (ρ.set i .un) F ι α H (α i) d := ⟨k4, k2, k3, k5, fun j e q z => by
      rcases getElem?_set_slot q with ⟨_, _, y⟩ | ⟨ne, q⟩
      · cases y
      · exact ne (R.inj _ _ _ _ q hi z).symm⟩
    obtain ⟨F', R1, l1, r1⟩ := R0.freeze f
    have R2 := R1.setFz (i := i) r1
    have e1 : (ρ.set i .un).set i (.fz d) = ρ.set i (.fz d) := List.set_set _
    have e2 : σ.set i (some (.ref (α i))) = σ := by
      apply List.ext_getElem?
      intro n
      by_cases hn : i = n
      · subst hn
        have hl : i < σ.length := (List.getElem?_eq_some_iff.mp k1).1
        rw [List.getElem?_set_self hl, k1]
      · rw [List.getElem?_set_ne hn]
    rw [e1, e2] at R2
    exact h _ _ Pr F' ι α σ H R2 o e D (hD.le l1 (LeA.refl _))
  · cases e
theorem fs_pass : FS p X ρ S (.Pass pos) (evS G .pass ρ S) := by
  intro Pr F ι α σ H R o e D h
  rw [evS] at e; cases e
  exact wS_of ps_pass (h F ι α σ H R (LeH.refl _) (LeA.refl _))
theorem fs_doc {x : Str} {j : Nat} {pos' : Pos} : FS p X ρ S (.Expr (.Constant (.str x) j pos) pos') (evS G .pass ρ S) := by
  intro Pr F ι α σ H R o e D h
  rw [evS] at e; cases e
  exact wS_of ps_doc (h F ι α σ H R (LeH.refl _) (LeA.refl _))
theorem fs_brk : FS p X ρ S (.Break pos) (evS G .brk ρ S) := by
  intro Pr F ι α σ H R o e D h
  rw [evS] at e; cases e
  exact wS_of ps_break (h F ι α σ H R (LeH.refl _) (LeA.refl _))
theorem fs_cnt : FS p X ρ S (.Continue pos) (evS G .cnt ρ S) := by
  intro Pr F ι α σ H R o e D h
  rw [evS] at e; cases e
  exact wS_of ps_continue (h F ι α σ H R (LeH.refl _) (LeA.refl _))
theorem fs_retN : FS p X ρ S (.Return none pos) (evS G .retN ρ S) := by
  intro Pr F ι α σ H R o e D h
  rw [evS] at e; cases e
  exact wS_of ps_retN (h .non F ι H R.wd (LeH.refl _) (LeA.refl _) .non)
theorem fs_ret (ha : FE p X ρ S ea (evE G a ρ S)) : FS p X ρ S (.Return (some ea) pos) (evS G (.ret a) ρ S) := by
  intro Pr F ι α σ H R o e D h
  rw [evS] at e
  obtain ⟨⟨d, S1⟩, e1, e2⟩ := Option.map_eq_some_iff.mp e
  cases e2
  exact wS_of (ps_ret peW) (ha Pr F ι α σ H R _ _ e1 _ fun v F' ι' H' R' l m r => h v F' ι' H' R'.wd l m r)
theorem fs_expr (hs : swapsWith ea none pos.line X.env = pure false) (ha : FE p X ρ S ea (evE G a ρ S)) : FS p X ρ S (.Expr ea pos) (evS G (.expr a) ρ S) := by
  intro Pr F ι α σ H R o e D h
  rw [evS] at e
  obtain ⟨⟨d, S1⟩, e1, e2⟩ := Option.map_eq_some_iff.mp e
  cases e2
  exact wS_of (ps_expr peW hs) (ha Pr F ι α σ H R _ _ e1 _ fun v F' ι' H' R' l m r => h F' ι' α σ H' R' l m)
theorem fs_ife {sa sb : List Stmt} {ra rb : Sms} (hc : FT p X ρ S ec (evE G c ρ S)) (ha : ∀ ρ S, FSs p X ρ S sa (evSs G ra ρ S)) (hb : ∀ ρ S, FSs p X ρ S sb (evSs G rb ρ S)) : FS p X ρ S (.If ec sa sb pos) (evS G (.ife c ra rb) ρ S) := by
  intro Pr F ι α σ H R o e D h
  rw [evS] at e
  obtain ⟨⟨u, S1⟩, e1, e⟩ := Option.bind_eq_some_iff.mp e
  obtain ⟨q, e2, e3⟩ := Option.bind_eq_some_iff.mp e
  cases blOf_eq e2
  refine wS_of (ps_if ptW pssW pssW) (hc Pr F ι α σ H R _ _ e1 _ fun F' ι' H' R' l m => ?_)
  by_cases hq : q = true
  · rw [if_pos hq] at e3 ⊢
    exact ha ρ S1 Pr F' ι' α σ H' R' o e3 D (h.le l m)
  · rw [if_neg hq] at e3 ⊢
    exact hb ρ S1 Pr F' ι' α σ H' R' o e3 D (h.le l m)
theorem wG_of {v : V} {σ : L2.St} {H : Hp} {Q : L2.St → Hp → Prop} {g : TG} (h : PG X tg g) (q : g v σ H Q) : wG X tg v σ H Q := fun pins s u I r => h.run pins s σ H v u Q I r q
/-- a target that is a name or names -/
def nmTg : Expr → Bool
  | .Name _ _ => true
  | .Tuple _ _ _ => true
  | _ => false
theorem nmTg_each (h : nmTg tg = true) : (assignEach [tg] X.env).map (·.2) = [assign tg X.env] := by
  cases tg <;> first | rfl | cases h
theorem fs_asg {t : Tg} (hs : swapsWithSole [tg] ea pos.line X.env = pure false) (hw : swappedStores [tg] ea X.env = pure none) (hn : nmTg tg = true) (ht : FG p X t tg) (ha : FE p X ρ S ea (evE G a ρ S)) : FS p X ρ S (.Assign [tg] ea pos) (evS G (.asg t a) ρ S) := by
  intro Pr F ι α σ H R o e D h
  rw [evS] at e
  obtain ⟨⟨d, S1⟩, e1, e⟩ := Option.bind_eq_some_iff.mp e
  obtain ⟨ρ', e2, e3⟩ := Option.map_eq_some_iff.mp e
  cases e3
  refine wS_of (ps_asg peW pgW hs hw (nmTg_each hn)) (ha Pr F ι α σ H R _ _ e1 _ fun v F' ι' H' R' l m r => ?_)
  exact ht R' r e2 _ fun σ' R2 _ => h F' ι' α σ' H' R2 l m
theorem own_ok {i : Nat} {d : D} {S1 : Store} {o : Out} (e : (match d with
      | .lst xs => some (Out.nxt (ρ.set i (.own (.lst xs))) S1)
      | .dK xs => some (.nxt (ρ.set i (.own (.dK xs))) S1)
      | .dT xs => some (.nxt (ρ.set i (.own (.dT xs))) S1)
      | _ => none) = some o) : o = .nxt (ρ.set i (.own d)) S1 := by
  cases d <;> first | (cases e; rfl) | cases e
theorem fs_own {i : Nat} {x : Str} {ps : Pos} (g : Good p N sc fn k X) (hs : swapsWith ea (some (.Name x ps)) pos.line X.env = pure false) (hN : N[i]? = some x) (hl : Loc sc x) (hf : fn x = true ∨ sc.names.lookup x = some .local) (ha : FN p X ρ S ea (evE G a ρ S)) :
    FS p X ρ S (.Assign [.Name x ps] ea pos) (evS G (.own i a) ρ S) := by
  intro Pr F ι α σ H R o e D h
  rw [evS] at e
  split at e
  case isFalse => cases e
  obtain ⟨⟨d, S1⟩, e1, e⟩ := Option.bind_eq_some_iff.mp e
  cases own_ok e
  refine wS_of (ps_set (i := i) (by rw [g.hN]; exact g.nd) (by rw [g.hN]; exact hN) (by rw [g.sc]; exact hl) peW hs (by rw [g.fn, g.sc]; exact hf)) (ha Pr F ι α σ H R _ _ e1 _ fun b F' ι' H' R' l m f => ?_)
  exact h F' ι' _ _ H' (R'.setOwn f) l m
/-- name = [.. for ..] -/
theorem fs_ownC {i : Nat} {x : Str} {ps : Pos} {elt iter : Expr} {ifs : List Expr} {cp : Pos} {scope : Scope} {t : Tg} {it : It} {cc : Ar} {own : List (Str × Nat)} (g : Good p N sc fn k X) (hsw : swapsWith (.ListComp elt [⟨tg, iter, ifs, 0⟩] scope cp) (some (.Name x ps)) pos.line X.env = pure true)
    (hN : N[i]? = some x) (hl : sc.names.lookup x = some .local) (hi : FI p X ρ S tg iter (evI G it ρ S)) (ok : BlkOk N sc scope own) (hix : own.map (·.2) = t.ix)
    (hg : ∀ X', Good p N (relS scope sc) (fnB scope) k X' → FG p X' t tg) (hc : FC p G (Good p N (relS scope sc) (fnB scope) k) ifs cc) (he : ∀ X', Good p N (relS scope sc) (fnB scope) k X' → ∀ ρ S, FE p X' ρ S elt (evE G a ρ S))
    (hs : ∀ x, foldedSetIterable iter X.env x = pure x) : FS p X ρ S (.Assign [.Name x ps] (.ListComp elt [⟨tg, iter, ifs, 0⟩] scope cp) pos) (evS G (.own i (.comp t it cc a)) ρ S) := by
  obtain ⟨gT, tt, tE, pg, pt, pe, hh⟩ := comp_core g hi ok hix hg hc he
  intro Pr F ι α σ H R o e D h
  rw [evS] at e
  split at e
  case isFalse => cases e
  obtain ⟨⟨d, S1⟩, e1, e⟩ := Option.bind_eq_some_iff.mp e
  cases own_ok e
  refine wS_unl (wS_of (ps_setLc (i := i) (own := own) g.calm (by rw [g.hN]; exact g.nd) (by rw [g.hN]; exact hN) (by rw [g.sc]; exact hl) hsw piW (by rw [g.hN, g.sc]; exact ok) pg pt pe hs) ?_)
  exact hh Pr F ι α σ H R _ _ e1 (fun v H1 => D.nx (σ.set i (some v)) H1) fun b F' ι' H' R' l m f => h F' ι' _ _ H' (R'.setOwn f) l m
theorem fs_asgC {i : Nat} {x : Str} {ps : Pos} {elt iter : Expr} {ifs : List Expr} {cp : Pos} {scope : Scope} {t : Tg} {it : It} {cc : Ar} {own : List (Str × Nat)} (g : Good p N sc fn k X) (hsw : swapsWith (.ListComp elt [⟨tg, iter, ifs, 0⟩] scope cp) (some (.Name x ps)) pos.line X.env = pure true)
    (hN : N[i]? = some x) (hl : sc.names.lookup x = some .local) (hi : FI p X ρ S tg iter (evI G it ρ S)) (ok : BlkOk N sc scope own) (hix : own.map (·.2) = t.ix)
    (hg : ∀ X', Good p N (relS scope sc) (fnB scope) k X' → FG p X' t tg) (hc : FC p G (Good p N (relS scope sc) (fnB scope) k) ifs cc) (he : ∀ X', Good p N (relS scope sc) (fnB scope) k X' → ∀ ρ S, FE p X' ρ S elt (evE G a ρ S))
    (hs : ∀ x, foldedSetIterable iter X.env x = pure x) : FS p X ρ S (.Assign [.Name x ps] (.ListComp elt [⟨tg, iter, ifs, 0⟩] scope cp) pos) (evS G (.asg (.nm i) (.comp t it cc a)) ρ S) := by
  obtain ⟨gT, tt, tE, pg, pt, pe, hh⟩ := comp_core g hi ok hix hg hc he
  intro Pr F ι α σ H R o e D h
  rw [evS] at e
  obtain ⟨⟨d, S1⟩, e1, e⟩ := Option.bind_eq_some_iff.mp e
  obtain ⟨ρ', e2, e3⟩ := Option.map_eq_some_iff.mp e
  cases e3
  cases e2
  refine wS_unl (wS_of (ps_setLc (i := i) (own := own) g.calm (by rw [g.hN]; exact g.nd) (by rw [g.hN]; exact hN) (by rw [g.sc]; exact hl) hsw piW (by rw [g.hN, g.sc]; exact ok) pg pt pe hs) ?_)
  refine hh Pr F ι α σ H R _ _ e1 (fun v H1 => D.nx (σ.set i (some v)) H1) fun b F' ι' H' R' l m f => ?_
  obtain ⟨F2, R2, l2, r2⟩ := R'.freeze f
  exact h F2 ι' _ _ H' (R2.setFz r2) (l.trans l2) m
theorem fs_asgCm {i : Nat} {x : Str} {ps : Pos} {elt iter : Expr} {ifs : List Expr} {cp : Pos} {scope : Scope} {t : Tg} {it : It} {cc : Ar} {own : List (Str × Nat)} (g : Good p N sc fn k X) (hsw : swapsWith (.ListComp elt [⟨tg, iter, ifs, 0⟩] scope cp) (some (.Name x ps)) pos.line X.env = pure true)
    (hN : N[i]? = some x) (hl : sc.names.lookup x = some .local) (hi : FI p X ρ S tg iter (evI G it ρ S)) (ok : BlkOk N sc scope own) (hix : own.map (·.2) = t.ix)
    (hg : ∀ X', Good p N (relS scope sc) (fnB scope) k X' → FG p X' t tg) (hc : FC p G (Good p N (relS scope sc) (fnB scope) k) ifs cc) (he : ∀ X', Good p N (relS scope sc) (fnB scope) k X' → ∀ ρ S, FE p X' ρ S elt (evE G a ρ S))
    (hs : ∀ x, foldedSetIterable iter X.env x = pure x) : FS p X ρ S (.Assign [.Name x ps] (.ListComp elt [⟨tg, iter, ifs, 0⟩] scope cp) pos) (evS G (.asg (.nm i) (.mref (.comp t it cc a))) ρ S) := by
  obtain ⟨gT, tt, tE, pg, pt, pe, hh⟩ := comp_core g hi ok hix hg hc he
  intro Pr F ι α σ H R o e D h
  rw [evS, evE] at e
  obtain ⟨⟨d, S1⟩, e1, e⟩ := Option.bind_eq_some_iff.mp e
  obtain ⟨⟨d0, S0⟩, e0, e1⟩ := Option.bind_eq_some_iff.mp e1
  obtain ⟨ρ', e2, e3⟩ := Option.map_eq_some_iff.mp e
  cases e3
  cases e2
  refine wS_unl (wS_of (ps_setLc (i := i) (own := own) g.calm (by rw [g.hN]; exact g.nd) (by rw [g.hN]; exact hN) (by rw [g.sc]; exact hl) hsw piW (by rw [g.hN, g.sc]; exact ok) pg pt pe hs) ?_)
  refine hh Pr F ι α σ H R _ _ e0 (fun v H1 => D.nx (σ.set i (some v)) H1) fun b F' ι' H' R' l m f => ?_
  obtain ⟨R2, at2⟩ := R'.addCell f
  cases d0 <;> simp only [newRef] at e1 <;> first
    | (cases e1; exact h F' _ _ _ H' (R2.setFz (.ref at2)) l (m.trans (LeA.app _ _)))
    | (cases e1)
theorem fs_par2 {i j : Nat} {x y : Str} {px py pt : Pos} {kt k2 : Nat} {pt2 : Pos} {as : Ar} (g : Good p N sc fn k X) (hi : N[i]? = some x) (hj : N[j]? = some y) (hij : i ≠ j) (hx : sc.names.lookup x = some .local) (hy : sc.names.lookup y = some .local)
    (hw : swappedStores [.Tuple [.Name x px, .Name y py] kt pt] (.Tuple [ea, eb] k2 pt2) X.env = pure (some [x, y])) (hs : swapsWithSole [.Tuple [.Name x px, .Name y py] kt pt] (.Tuple [ea, eb] k2 pt2) pos.line X.env = pure false)
    (ha : FA p X ρ S [ea, eb] (evA G as ρ S)) : FS p X ρ S (.Assign [.Tuple [.Name x px, .Name y py] kt pt] (.Tuple [ea, eb] k2 pt2) pos) (evS G (.par [i, j] as) ρ S) := by
  intro Pr F ι α σ H R o e D h
  rw [evS] at e
  obtain ⟨⟨ds, S1⟩, e1, e⟩ := Option.bind_eq_some_iff.mp e
  split at e
  case isFalse => cases e
  rename_i hl
  cases e
  refine wS_of (ps_par g.calm (by rw [g.hN]; exact g.nd) (by rw [g.hN]; exact hi) (by rw [g.hN]; exact hj) hij (by rw [g.sc]; exact hx) (by rw [g.sc]; exact hy) paW hw hs) (ha Pr F ι α σ H R _ _ e1 _ fun vs F' ι' H' R' l m rs => ?_)
  have hl : ds.length = 2 := hl
  cases rs with
  | nil => cases hl
  | cons r1 rs =>
  cases rs with
  | nil => cases hl
  | cons r2 rs =>
  cases rs with
  | cons _ _ => simp at hl
  | nil => exact ⟨_, _, rfl, h F' ι' α _ H' ((R'.setFz (i := i) r1).setFz (i := j) r2) l m⟩
theorem fs_par3 {i j l : Nat} {x y z : Str} {px py pz pt : Pos} {kt k2 : Nat} {pt2 : Pos} {as : Ar} (g : Good p N sc fn k X) (hi : N[i]? = some x) (hj : N[j]? = some y) (hl : N[l]? = some z) (hij : i ≠ j) (hil : i ≠ l) (hjl : j ≠ l)
    (hx : sc.names.lookup x = some .local) (hy : sc.names.lookup y = some .local) (hz : sc.names.lookup z = some .local)
    (hw : swappedStores [.Tuple [.Name x px, .Name y py, .Name z pz] kt pt] (.Tuple [ea, eb, ec] k2 pt2) X.env = pure (some [x, y, z])) (hs : swapsWithSole [.Tuple [.Name x px, .Name y py, .Name z pz] kt pt] (.Tuple [ea, eb, ec] k2 pt2) pos.line X.env = pure false)
    (ha : FA p X ρ S [ea, eb, ec] (evA G as ρ S)) : FS p X ρ S (.Assign [.Tuple [.Name x px, .Name y py, .Name z pz] kt pt] (.Tuple [ea, eb, ec] k2 pt2) pos) (evS G (.par [i, j, l] as) ρ S) := by
  intro Pr F ι α σ H R o e D h
  rw [evS] at e
  obtain ⟨⟨ds, S1⟩, e1, e⟩ := Option.bind_eq_some_iff.mp e
  split at e
  case isFalse => cases e
  rename_i hlen
  cases e
  refine wS_of (ps_par3 g.calm (by rw [g.hN]; exact g.nd) (by rw [g.hN]; exact hi) (by rw [g.hN]; exact hj) (by rw [g.hN]; exact hl) hij hil hjl (by rw [g.sc]; exact hx) (by rw [g.sc]; exact hy) (by rw [g.sc]; exact hz) paW hw hs) (ha Pr F ι α σ H R _ _ e1 _ fun vs F' ι' H' R' l' m rs => ?_)
  have hlen : ds.length = 3 := hlen
  cases rs with
  | nil => cases hlen
  | cons r1 rs =>
  cases rs with
  | nil => cases hlen
  | cons r2 rs =>
  cases rs with
  | nil => cases hlen
  | cons r3 rs =>
  cases rs with
  | cons _ _ => simp at hlen
  | nil => exact ⟨_, _, _, rfl, h F' ι' α _ H' (((R'.setFz (i := i) r1).setFz (i := j) r2).setFz (i := l) r3) l' m⟩
theorem fs_aug {i : Nat} {x : Str} {op : Operator} {ps : Pos} (g : Good p N sc fn k X) (hN : N[i]? = some x) (hl : Loc sc x) (hf : fn x = true ∨ sc.names.lookup x = some .local) (ha : FE p X ρ S ea (evE G a ρ S)) : FS p X ρ S (.AugAssign (.Name x ps) op ea pos) (evS G (.aug i op a) ρ S) := by
  intro Pr F ι α σ H R o e D h
  rw [evS] at e
  obtain ⟨⟨d, S1⟩, e1, e⟩ := Option.bind_eq_some_iff.mp e
  split at e
  case h_2 => cases e
  rename_i u hu
  obtain ⟨v, hv, ru⟩ := R.fz i u hu
  cases u <;> try cases e
  cases d <;> try cases e
  cases ru
  rename_i ii jj
  have pv : ∀ v, Rep p.K F ι v (.int ii) → v = .int ii := fun v r => by cases r; rfl
  cases op <;> try cases e
  · refine wS_of (ps_aug (i := i) (by rw [g.hN]; exact g.nd) (by rw [g.hN]; exact hN) (by rw [g.sc]; exact hl) peW iop_add (by rw [g.fn, g.sc]; exact hf)) ⟨_, hv, ha Pr F ι α σ H R _ _ e1 _ fun v F' ι' H' R' l m r => ?_⟩
    cases r
    exact ⟨_, _, rfl, rfl, h F' ι' α _ H' (R'.setFz (.int _)) l m⟩
  · refine wS_of (ps_aug (i := i) (by rw [g.hN]; exact g.nd) (by rw [g.hN]; exact hN) (by rw [g.sc]; exact hl) peW iop_sub (by rw [g.fn, g.sc]; exact hf)) ⟨_, hv, ha Pr F ι α σ H R _ _ e1 _ fun v F' ι' H' R' l m r => ?_⟩
    cases r
    exact ⟨_, _, rfl, rfl, h F' ι' α _ H' (R'.setFz (.int _)) l m⟩
theorem fs_while {body : List Stmt} {rb : Sms} (g : Good p N sc fn k X) (hc : ∀ ρ S, FT p X ρ S ec (evE G c ρ S)) (hb : ∀ ρ S, FSs p X ρ S body (evSs G rb ρ S)) : FS p X ρ S (.While ec body [] pos) (evS G (.while_ c rb) ρ S) := by
  intro Pr F ι α σ H R o e D h
  rw [evS] at e
  refine wS_of (ps_while (by rw [g.xe]; exact PassesOwn.never) ptW pssW) ⟨fun m σ H => ∃ ρ S F' ι' α', Rel p Pr ρ S F' ι' α' σ H ∧ LeH F F' ∧ LeA ι ι' ∧ whGo (fun ρ' S' => (evE G c ρ' S').bind fun x => (blOf x.1).map fun k => (k, x.2)) (fun ρ' S' => evSs G rb ρ' S') m ρ S = some o,
    ⟨_, ρ, S, F, ι, α, R, LeH.refl _, LeA.refl _, e⟩, ?_⟩
  intro m σ1 H1 ⟨ρ1, S1, F1, ι1, α1, R1, l1, m1, e1⟩
  cases m with
  | zero => cases e1
  | succ m =>
  simp only [whGo] at e1
  obtain ⟨⟨b, S2⟩, e2, e1⟩ := Option.bind_eq_some_iff.mp e1
  obtain ⟨⟨u, S3⟩, e3, e4⟩ := Option.bind_eq_some_iff.mp e2
  obtain ⟨b', e5, e6⟩ := Option.map_eq_some_iff.mp e4
  cases e6
  cases blOf_eq e5
  refine hc ρ1 S1 Pr F1 ι1 α1 σ1 H1 R1 _ _ e3 _ fun F2 ι2 H2 R2 l2 m2 => ?_
  by_cases hb' : b = true
  · rw [if_pos hb'] at e1 ⊢
    obtain ⟨o2, e7, e8⟩ := Option.bind_eq_some_iff.mp e1
    refine ⟨fun σ' H' => ∃ ρ S F' ι' α', Rel p Pr ρ S F' ι' α' σ' H' ∧ LeH F F' ∧ LeA ι ι' ∧ whGo (fun ρ' S' => (evE G c ρ' S').bind fun x => (blOf x.1).map fun k => (k, x.2)) (fun ρ' S' => evSs G rb ρ' S') m ρ S = some o, fun σ' H' q => ⟨m, Nat.lt_succ_self _, q⟩, ?_⟩
    refine hb ρ1 _ Pr F2 ι2 α1 σ1 H2 R2 o2 e7 _ ?_
    cases o2 with
    | nxt ρ' S' => exact fun F3 ι3 α3 σ3 H3 R3 l3 m3 => ⟨ρ', S', F3, ι3, α3, R3, (l1.trans l2).trans l3, (m1.trans m2).trans m3, e8⟩
    | cnt ρ' S' => exact fun F3 ι3 α3 σ3 H3 R3 l3 m3 => ⟨ρ', S', F3, ι3, α3, R3, (l1.trans l2).trans l3, (m1.trans m2).trans m3, e8⟩
    | brk ρ' S' => cases e8; exact fun F3 ι3 α3 σ3 H3 R3 l3 m3 => h F3 ι3 α3 σ3 H3 R3 ((l1.trans l2).trans l3) ((m1.trans m2).trans m3)
    | ret d S' => cases e8; exact h.le (l1.trans l2) (m1.trans m2)
  · rw [if_neg hb'] at e1 ⊢
    cases e1
    exact h F2 ι2 α1 σ1 H2 R2 (l1.trans l2) (m1.trans m2)
theorem fs_for {iter : Expr} {body : List Stmt} {t : Tg} {it : It} {rb : Sms} (g : Good p N sc fn k X) (hi : FI p X ρ S tg iter (evI G it ρ S)) (ht : FG p X t tg) (hb : ∀ ρ S, FSs p X ρ S body (evSs G rb ρ S)) (hs : ∀ x, foldedSetIterable iter X.env x = pure x) :
    FS p X ρ S (.For tg iter body [] pos) (evS G (.for_ t it rb) ρ S) := by
  intro Pr F ι α σ H R o er Ds h
  rw [evS] at er
  obtain ⟨⟨w, xs, S1⟩, e1, er⟩ := Option.bind_eq_some_iff.mp er
  split at er
  case isFalse => cases er
  rename_i ns
  obtain ⟨⟨S2, lk⟩, e2, er⟩ := Option.bind_eq_some_iff.mp er
  obtain ⟨o1, e3, e4⟩ := Option.bind_eq_some_iff.mp er
  refine wS_unl (wS_of (ps_for (by rw [g.xe]; exact PassesOwn.never) g.calm piW pgW pssW hs) ?_)
  refine hi Pr F ι α σ H R w xs S1 e1 S2 lk e2 _ fun J v u Lk F1 ι1 H1 R1 l1 m1 hr c1 wk fo sb => ?_
  have hm := h.free fo l1 m1 e4
  obtain ⟨W, hW⟩ : ∃ W : Nat → Nat → L2.St → Hp → Prop, W = fun i m σ H => m = xs.length - i ∧ i ≤ xs.length ∧ ∃ ρ' S F ι α, Rel p (lkP Pr Lk) ρ' S F ι α σ H ∧ LeH F1 F ∧ LeA ι1 ι ∧ cont ρ' S w = some u ∧
      forGo (fun S' ρ' => cont ρ' S' w = cont ρ S2 w) (fun d ρ' S' => (bindT t d ρ').bind fun ρ2 => evSs G rb ρ2 S') (xs.drop i) ρ' S = some o1 := ⟨_, rfl⟩
  refine ⟨W, ⟨xs.length - 0, by rw [hW]; exact ⟨rfl, Nat.zero_le _, ρ, S2, F1, ι1, α, R1, LeH.refl _, LeA.refl _, c1, e3⟩⟩, ?_⟩
  intro i m σ2 H2 hw
  rw [hW] at hw
  obtain ⟨hm', hi2, ρ2, S, F2, ι2, α2, R2, l2, m2, cc, eg⟩ := hw
  have hr2 : HRep p F2 ι2 α2 v w := by
    cases w with
    | val d => exact Rep.le l2 m2 hr
    | slot j => cases ns
  have cv := cv_of R2 hr2 cc
  have lkk := R2.lkOk
  cases hx : xs[i]? with
  | none =>
    have hlen : xs.length ≤ i := List.getElem?_eq_none_iff.mp hx
    have : i = xs.length := by omega
    subst this
    refine .inl ⟨wk.stop R2.wd l2 m2 cv lkk, ?_⟩
    rw [List.drop_length] at eg
    cases eg
    exact hm F2 ι2 α2 σ2 H2 R2 l2 m2
  | some d =>
    have hil : i < xs.length := (List.getElem?_eq_some_iff.mp hx).1
    have hdrop : xs.drop i = d :: xs.drop (i + 1) := by
      rw [List.drop_eq_getElem_cons hil]
      congr 1
      exact (List.getElem?_eq_some_iff.mp hx).2
    rw [hdrop] at eg
    simp only [forGo] at eg
    obtain ⟨o2, f1, f2⟩ := Option.bind_eq_some_iff.mp eg
    obtain ⟨ρ3, f3, f4⟩ := Option.bind_eq_some_iff.mp f1
    obtain ⟨go, yl⟩ := wk.step hx R2.wd l2 m2 cv lkk
    refine .inr ⟨go, fun σ' H' => W (i + 1) (m - 1) σ' H', fun σ' H' q => ⟨m - 1, by omega, q⟩, fun x H' y => ?_⟩
    obtain ⟨F3, gr, rx⟩ := yl x H' y
    refine ht (R2.grow gr) rx f3 _ fun σ3 R3 _ => ?_
    refine hb ρ3 S _ F3 ι2 α2 σ3 H' R3 o2 f4 _ ?_
    have nxt : ∀ {ρ' S'}, cont ρ' S' w = cont ρ S2 w → forGo (fun S' ρ' => cont ρ' S' w = cont ρ S2 w) (fun d ρ' S' => (bindT t d ρ').bind fun ρ2 => evSs G rb ρ2 S') (xs.drop (i + 1)) ρ' S' = some o1 →
        ∀ F' ι' α' σ' H', Rel p (lkP Pr Lk) ρ' S' F' ι' α' σ' H' → LeH F3 F' → LeA ι2 ι' → W (i + 1) (m - 1) σ' H' := fun {ρ' S'} kp f F' ι' α' σ' H' R' l m' => by
      rw [hW]
      exact ⟨by omega, hil, ρ', S', F', ι', α', R', (l2.trans gr.f).trans l, m2.trans m', by rw [kp]; exact c1, f⟩
    cases o2 with
    | nxt ρ' S' =>
      simp only at f2
      split at f2
      · rename_i kp; exact nxt kp f2
      · cases f2
    | cnt ρ' S' =>
      simp only at f2
      split at f2
      · rename_i kp; exact nxt kp f2
      · cases f2
    | brk ρ' S' =>
      simp only at f2
      split at f2
      · cases f2
        exact fun F' ι' α' σ' H' R' l m' => hm F' ι' α' σ' H' R' ((l2.trans gr.f).trans l) (m2.trans m')
      · cases f2
    | ret d' S' =>
      simp only at f2
      split at f2
      · cases f2
        exact fun v' F' ι' H' W' l m' r => hm v' F' ι' H' W' ((l2.trans gr.f).trans l) (m2.trans m') r
      · cases f2
end
end Z

set_option Elab.async false
set_option linter.all false
set_option maxRecDepth 100000
set_option maxHeartbeats 4000000
namespace Z
open PySem PySem.Spec PyProof.Rows L2
section
variable {p : Pg} {Pr : Hp} {ρ : Env'} {S : Store} {F : Hp} {ι : List Addr} {α : Nat → Addr} {σ : L2.St} {H : Hp}
theorem putC_ok {x : V} {h : Hd} {u d : D} {ρ' : Env'} {S' : Store} (R : Rel p Pr ρ S F ι α σ H) (r : HRep p F ι α x h) (c : cont ρ S h = some u) (hp : putC ρ S h d = some (ρ', S')) :
    ∃ a, x = .ref a ∧ CRep p.K F ι H a u ∧ ∀ o, (∀ G : Hp, G a = some o → CRep p.K F ι G a d) → Rel p Pr ρ' S' F ι α σ (upd H a o) := by
  cases h with
  | slot i =>
    simp only [cont] at c
    split at c
    · rename_i w hi
      cases c
      cases hp
      exact ⟨α i, r, (R.own i u hi).2.2.2.1, fun o ho => R.putOwn hi (ho _ upd_same)⟩
    · cases c
  | val v =>
    cases v <;> try cases hp
    rename_i n
    simp only [putC] at hp
    obtain ⟨S2, h1, h2⟩ := Option.map_eq_some_iff.mp hp
    cases h2
    simp only [setC] at h1
    split at h1
    · rename_i w hc
      cases h1
      simp only [cont, hc] at c
      cases c
      cases (show Rep p.K F ι x (.ref n) from r) with
      | @ref n a hn =>
      obtain ⟨b, hb, hF, q⟩ := R.wd.at hc
      rw [hn] at hb; cases hb
      refine ⟨a, rfl, q, fun o ho => R.put hn ?_ (ho _ upd_same)⟩
      cases z : Pr a with
      | none => rfl
      | some u =>
        obtain ⟨d, y⟩ := (R.wd.prot a u z).2.2 n _ hn hc
        cases y
    · cases h1
theorem fput_ok {K : PySem.W.Frag} {v : V} {d : D} {f : Str} (r : Rep K F ι v d) : ∀ {fv : List (Str × V)} {fs : List (Str × D)}, fv.map (·.1) = fs.map (·.1) → Reps K F ι (fv.map (·.2)) (fs.map (·.2)) →
    (putF f v fv).map (·.1) = (setF.fput fs f d).map (·.1) ∧ Reps K F ι ((putF f v fv).map (·.2)) ((setF.fput fs f d).map (·.2))
  | [], [], _, _ => ⟨rfl, .cons r .nil⟩
  | [], _ :: _, e, _ => by cases e
  | _ :: _, [], e, _ => by cases e
  | (g, x) :: fv, (g', y) :: fs, e, rs => by
    simp only [List.map_cons, List.cons.injEq] at e
    obtain ⟨e1, e2⟩ := e
    subst e1
    cases rs with
    | cons r1 r2 =>
    obtain ⟨h1, h2⟩ := fput_ok r e2 r2
    simp only [putF, setF.fput]
    by_cases hg : g = f
    · rw [if_pos hg, if_pos hg]
      exact ⟨by simp [e2], .cons r r2⟩
    · rw [if_neg hg, if_neg hg]
      exact ⟨by simp [h1], .cons r1 h2⟩
theorem map_set' {β : Type} (l : List β) (n : Nat) (x : β) : True := trivial
end
section
variable {p : Pg} {N : List Str} {sc : Scope} {fn : Str → Bool} {k : Nat} {X : Cx} {G : Fns} {ρ : Env'} {S : Store} {e ea eb ec eo tg : Expr} {pos : Pos} {a b c o : Ex} {st : Stmt} {sts : List Stmt}
theorem setF_ok {Pr F : Hp} {ι : List Addr} {α : Nat → Addr} {σ : L2.St} {H : Hp} {n : Nat} {x : V} {f : Str} {v : V} {d : D} {S' : Store} (g : Good p N sc fn k X) (gf : FldOk p G) (R : Rel p Pr ρ S F ι α σ H) (r : Rep p.K F ι x (.ref n)) (rv : Rep p.K F ι v d) (e : setF G S n f d = some S') :
    ∃ a C dx fs, x = .ref a ∧ H a = some (.ins C dx fs) ∧ Cls X.K C ∧ NoAttr X.K C f ∧ fs.length < 1000 ∧ Rel p Pr ρ S' F ι α σ (upd H a (.ins C dx (putF f v fs))) := by
  unfold setF at e
  split at e
  · rename_i C fs hc
    split at e
    · rename_i hl
      cases e
      cases r with
      | @ref n a hn =>
      obtain ⟨b, hb, hF, Ca, dx, fv, h1, h2, h3, h4⟩ := R.wd.at hc
      rw [hn] at hb; cases hb
      obtain ⟨c1, c2⟩ := gf.fld C f Ca hl.2 h1
      rw [← g.K] at c1 c2
      have hlen : fv.length = fs.length := by have := congrArg List.length h3; simpa using this
      obtain ⟨k1, k2⟩ := fput_ok (f := f) rv h3 h4
      refine ⟨a, Ca, dx, fv, rfl, h2, c1, c2, by rw [hlen]; exact hl.1, R.put hn ?_ ⟨Ca, dx, _, h1, upd_same, k1, k2⟩⟩
      cases z : Pr a with
      | none => rfl
      | some u =>
        obtain ⟨d, y⟩ := (R.wd.prot a u z).2.2 n _ hn hc
        cases y
    · cases e
  · cases e
theorem fs_setf {f : Str} {pos' : Pos} (g : Good p N sc fn k X) (gf : FldOk p G) (hs : swapsWith ea (some (.Attribute eo f pos')) pos.line X.env = pure false) (ho : ∀ S, FE p X ρ S eo (evE G o ρ S)) (ha : FE p X ρ S ea (evE G a ρ S)) :
    FS p X ρ S (.Assign [.Attribute eo f pos'] ea pos) (evS G (.setf o f a) ρ S) := by
  intro Pr F ι α σ H R o' e D h
  rw [evS] at e
  obtain ⟨⟨d, S1⟩, e1, e⟩ := Option.bind_eq_some_iff.mp e
  obtain ⟨⟨u, S2⟩, e2, e⟩ := Option.bind_eq_some_iff.mp e
  cases u <;> try cases e
  obtain ⟨S3, e3, e4⟩ := Option.map_eq_some_iff.mp e
  cases e4
  refine wS_of (ps_fld peW peW hs) (ha Pr F ι α σ H R _ _ e1 _ fun v F1 ι1 H1 R1 l1 m1 r1 => ho S1 Pr F1 ι1 α σ H1 R1 _ _ e2 _ fun x F2 ι2 H2 R2 l2 m2 r2 => ?_)
  obtain ⟨c, C, dx, fs, rfl, h2, h3, h4, h5, R3⟩ := setF_ok g gf R2 r2 (r1.le l2 m2) e3
  exact ⟨c, C, dx, fs, rfl, h2, h3, h4, h5, h F2 ι2 α σ _ R3 (l1.trans l2) (m1.trans m2)⟩
def wSet (X : Cx) : TSet := fun o i v H Q => ∀ pins s σ ov iv u, Inv X pins σ H s → RelV o ov → RelV i iv → RelV v u → wpAny (model X.prog X.w) X.A (setItem ov iv u) (fun _ s' => ∃ H', Inv X pins σ H' s' ∧ Q H') X.xe s
theorem wSet_ok : PSet X (wSet X) := fun pins s σ _ _ _ _ ov iv u _ I ro ri rv h => h pins s σ ov iv u I ro ri rv
theorem wSet_of {t : TSet} (h : PSet X t) {o i v : V} {H : Hp} {Q : Hp → Prop} (q : t o i v H Q) : wSet X o i v H Q := fun pins s σ ov iv u I ro ri rv => h pins s σ H o i v ov iv u Q I ro ri rv q
theorem set_ok {Pr F : Hp} {ι : List Addr} {α : Nat → Addr} {σ : L2.St} {H : Hp} {x y v : V} {h : Hd} {u kd d d' : D} {ρ' : Env'} {S' : Store} (g : Good p N sc fn k X) (R : Rel p Pr ρ S F ι α σ H) (r : HRep p F ι α x h) (ry : Rep p.K F ι y kd) (rv : Rep p.K F ι v d) (c : cont ρ S h = some u)
    (e1 : setItem' u kd d = some d') (e2 : putC ρ S h d' = some (ρ', S')) {Q : Hp → Prop} (q : ∀ H', Rel p Pr ρ' S' F ι α σ H' → Q H') : wSet X x y v H Q := by
  obtain ⟨a, rfl, cr, wr⟩ := putC_ok R r c e2
  have hu : X.A.units + 1 < cLine := by have := g.units; omega
  unfold setItem' at e1
  split at e1
  · rename_i xs i
    obtain ⟨j, h1, h2⟩ := Option.map_eq_some_iff.mp e1
    cases h2
    obtain ⟨vs, hH, rs⟩ := cr
    cases ry
    refine wSet_of set_list ⟨a, vs, _, j, rfl, rfl, hH, by rw [rs.length]; exact h1, q _ (wr _ fun G hG => ⟨_, hG, rs.set rv j⟩)⟩
  · rename_i es
    simp only [dset] at e1
    split at e1
    · rename_i key hk
      split at e1
      · rename_i hl
        cases e1
        obtain ⟨kvs, hH, k1, k2⟩ := cr
        have hy := keyK_rep ry hk
        subst hy
        have hlen : kvs.length = es.length := by have := congrArg List.length k1; simpa using this
        refine wSet_of (set_dict hu) ⟨a, _, rfl, .k hH (by rw [hlen]; exact hl), q _ (wr _ fun G hG => ?_)⟩
        obtain ⟨z1, z2⟩ := RKV.put key rv (⟨k1, k2⟩ : RKV p.K F ι kvs es)
        exact ⟨_, hG, z1, z2⟩
      · cases e1
    · cases e1
  · rename_i es
    simp only [dset] at e1
    split at e1
    · rename_i key hk
      split at e1
      · rename_i hl
        cases e1
        obtain ⟨kvs, hH, k1, k2⟩ := cr
        have hy : ∀ n, kd ≠ .ref n := fun n z => by subst z; cases hk
        obtain ⟨b, rfl, hb⟩ := keyT_cv (.of_rep R.wd.sub ry hy) hk
        have hlen : kvs.length = es.length := by have := congrArg List.length k1; simpa using this
        refine wSet_of (set_dict hu) ⟨a, _, rfl, .t hH hb (by rw [hlen]; exact hl), q _ (wr _ fun G hG => ?_)⟩
        obtain ⟨z1, z2⟩ := RKV.put key rv (⟨k1, k2⟩ : RKV p.K F ι kvs es)
        exact ⟨_, hG, z1, z2⟩
      · cases e1
    · cases e1
  · cases e1
theorem fs_seti {pos' : Pos} (g : Good p N sc fn k X) (hs : swapsWithSole [.Subscript eo eb pos'] ea pos.line X.env = pure false) (hw : swappedStores [.Subscript eo eb pos'] ea X.env = pure none)
    (hst : ∀ v, assign (.Subscript eo eb pos') X.env v = (do
      let ov ← holding [v] (eval eo X.env)
      let iv ← holding [v, ov] (eval eb X.env)
      standAt pos'
      holding [v, ov, iv] (setItem ov iv v)
      release [v, ov, iv] [])) (ho : ∀ S, FH p X ρ S eo (hOf o ρ S (evE G o ρ S))) (hb : ∀ S, FE p X ρ S eb (evE G b ρ S)) (ha : FE p X ρ S ea (evE G a ρ S)) :
    FS p X ρ S (.Assign [.Subscript eo eb pos'] ea pos) (evS G (.seti o b a) ρ S) := by
  intro Pr F ι α σ H R o' e D h
  rw [evS] at e
  obtain ⟨⟨d, S1⟩, e1, e⟩ := Option.bind_eq_some_iff.mp e
  obtain ⟨⟨w, S2⟩, e2, e⟩ := Option.bind_eq_some_iff.mp e
  obtain ⟨⟨kd, S3⟩, e3, e⟩ := Option.bind_eq_some_iff.mp e
  obtain ⟨u, e4, e⟩ := Option.bind_eq_some_iff.mp e
  obtain ⟨d', e5, e⟩ := Option.bind_eq_some_iff.mp e
  obtain ⟨⟨ρ', S4⟩, e6, e7⟩ := Option.map_eq_some_iff.mp e
  cases e7
  refine wS_of (ps_asg peW (pg_sub peW peW wSet_ok hst) hs hw rfl) (ha Pr F ι α σ H R _ _ e1 _ fun v F1 ι1 H1 R1 l1 m1 r1 => ho S1 Pr F1 ι1 α σ H1 R1 _ _ e2 _ fun x F2 ι2 H2 R2 l2 m2 r2 => hb S2 Pr F2 ι2 α σ H2 R2 _ _ e3 _ fun y F3 ι3 H3 R3 l3 m3 r3 => ?_)
  exact set_ok g R3 (r2.le l3 m3) r3 ((r1.le l2 m2).le l3 m3) e4 e5 e6 fun H' R' => h F3 ι3 α σ H' R' ((l1.trans l2).trans l3) ((m1.trans m2).trans m3)
theorem star_all : ∀ {es : List Expr} {env : Env} {cp : Pos}, (es.all fun e => !isStar e) = true → (backTo cp (starEach es env)).any (·.1) = false ∧ (backTo cp (starEach es env)).all (fun x => !x.1) = true
  | [], _, _, _ => ⟨rfl, rfl⟩
  | e :: es, env, cp, h => by
    rw [List.all_cons, Bool.and_eq_true, Bool.not_eq_true'] at h
    obtain ⟨h1, h2⟩ := star_all (env := env) (cp := cp) h.2
    rw [star_cons h.1]
    constructor
    · show (false || (backTo cp (starEach es env)).any (·.1)) = false
      rw [h1]; rfl
    · show (true && (backTo cp (starEach es env)).all (fun x => !x.1)) = true
      rw [h2]; rfl
theorem few_of {es : List Expr} {env : Env} {cp : Pos} (h : (es.all fun e => !isStar e) = true) (hl : es.length < 30) :
    ((backTo cp (starEach es env)).all (fun x => !x.1) && (backToKw cp (keywordEach [] env)).all (fun x => x.1.isSome) && decide (es.length + ([] : List Keyword).length + (if ([] : List Keyword).isEmpty then 0 else 1) < 30)) = true := by
  rw [(star_all h).2]
  show (true && true && decide (es.length + 0 + 0 < 30)) = true
  simpa using hl
theorem isLst_of {F : Hp} {ι : List Addr} {H : Hp} {x : V} {u : D} (h : CV p F ι H x u) (d : isLst (some u) = true) : ∃ a xs, x = .ref a ∧ SqL p.K H a xs := by
  cases u <;> try cases d
  obtain ⟨a, vs, rfl, q, _⟩ := h; exact ⟨a, vs, rfl, q⟩
theorem ty_lst (g : Good p N sc fn k X) {F : Hp} {ι : List Addr} {H : Hp} {x : V} {u : D} (h : CV p F ι H x u) (d : isLst (some u) = true) : tyV X.K "list" x H := by
  obtain ⟨a, vs, rfl, q⟩ := isLst_of h d
  exact .inl ⟨rfl, vs, by rw [g.K]; exact q⟩
theorem fs_app {apos cp : Pos} (g : Good p N sc fn k X) (hs : swapsWith (.Call (.Attribute eo "append" apos) [ea] [] cp) none pos.line X.env = pure false) (hb : attributeBase eo "append" X.env (eval eo X.env) = eval eo X.env) (hl : (apos.endLine == cp.line) = true) (h0 : isStar ea = false)
    (ho : FH p X ρ S eo (hOf o ρ S (evE G o ρ S))) (ha : ∀ S, FE p X ρ S ea (evE G a ρ S)) : FS p X ρ S (.Expr (.Call (.Attribute eo "append" apos) [ea] [] cp) pos) (evS G (.app o a) ρ S) := by
  intro Pr F ι α σ H R o' e D h
  rw [evS] at e
  obtain ⟨⟨w, S1⟩, e1, e⟩ := Option.bind_eq_some_iff.mp e
  split at e
  case isFalse => cases e
  rename_i hd
  obtain ⟨⟨d, S2⟩, e2, e⟩ := Option.bind_eq_some_iff.mp e
  obtain ⟨u, e3, e⟩ := Option.bind_eq_some_iff.mp e
  cases u <;> try cases e
  rename_i xs
  simp only at e
  split at e
  case isFalse => cases e
  rename_i hlen
  obtain ⟨⟨ρ', S4⟩, e6, e7⟩ := Option.map_eq_some_iff.mp e
  cases e7
  have fa : ∀ S, FA p X ρ S [ea] (evA G (.cons a .nil) ρ S) := fun S => fa_cons h0 (ha S) fun S => fa_nil
  refine wS_of (ps_expr (pe_bm PySem.F.plainAttrs_list PySem.F.slot_list_append PySem.F.type_list_append mt_append peW paW hb (few_of (by simp [h0]) (by simp)) hl (star_cons h0) rfl) hs) (ho Pr F ι α σ H R _ _ e1 _ fun x F1 ι1 H1 R1 l1 m1 r1 => ?_)
  cases hc : cont ρ S1 w with
  | none => rw [hc] at hd; cases hd
  | some u0 =>
  rw [hc] at hd
  refine ⟨ty_lst g (cv_of R1 r1 hc) hd, fa S1 Pr F1 ι1 α σ H1 R1 [d] S2 (by simp [evA, e2]) _ fun vs F2 ι2 H2 R2 l2 m2 rs => ?_⟩
  cases rs with
  | cons rv rs =>
  cases rs
  obtain ⟨ad, rfl, cr, wr⟩ := putC_ok R2 (r1.le l2 m2) e3 e6
  obtain ⟨vs, hH, rs⟩ := cr
  exact ⟨ad, vs, _, rfl, rfl, hH, by rw [rs.length]; exact hlen, h F2 ι2 α σ _ (wr _ fun G hG => ⟨_, hG, rs.app (.cons rv .nil)⟩) (l1.trans l2) (m1.trans m2)⟩
/-- what a pop gives back, the container changed -/
def FP (p : Pg) (X : Cx) (ρ : Env') (S : Store) (e : Expr) (r : Option (D × Env' × Store)) : Prop :=
  ∀ Pr F ι α σ H, Rel p Pr ρ S F ι α σ H → ∀ d ρ' S', r = some (d, ρ', S') → ∀ Q : VK, (∀ v F' ι' H', Rel p Pr ρ' S' F' ι' α σ H' → LeH F F' → LeA ι ι' → Rep p.K F' ι' v d → Q v H') → wE X e σ H Q
noncomputable def evP (G : Fns) (o : Ex) (as : Ar) (ρ : Env') (S : Store) : Option (D × Env' × Store) := (hOf o ρ S (evE G o ρ S)).bind fun x => (evA G as ρ x.2).bind fun y => if isLst (cont ρ x.2 x.1) = isLst (cont ρ y.2 x.1) ∧ isDct (cont ρ x.2 x.1) = isDct (cont ρ y.2 x.1) then (cont ρ y.2 x.1).bind fun u => (popD u y.1).bind fun r =>
      (putC ρ y.2 x.1 r.2).map fun q => (r.1, q.1, q.2) else none
theorem fs_pop {cp : Expr} {as : Ar} (hs : swapsWith cp none pos.line X.env = pure false) (h : FP p X ρ S cp (evP G o as ρ S)) : FS p X ρ S (.Expr cp pos) (evS G (.pop none o as) ρ S) := by
  intro Pr F ι α σ H R o' e D hD
  rw [evS] at e
  obtain ⟨⟨w, S1⟩, e1, e⟩ := Option.bind_eq_some_iff.mp e
  obtain ⟨⟨ds, S2⟩, e2, e⟩ := Option.bind_eq_some_iff.mp e
  split at e
  case isFalse => cases e
  rename_i hd
  obtain ⟨u, e3, e⟩ := Option.bind_eq_some_iff.mp e
  obtain ⟨r, e4, e⟩ := Option.bind_eq_some_iff.mp e
  obtain ⟨⟨ρ', S3⟩, e5, e⟩ := Option.bind_eq_some_iff.mp e
  cases e
  have e : evP G o as ρ S = some (r.1, ρ', S3) := by
    unfold evP
    simp only [e1, e2, Option.bind_some]
    rw [if_pos hd]
    simp only [e3, e4, Option.bind_some, e5, Option.map_some]
  exact wS_of (ps_expr peW hs) (h Pr F ι α σ H R _ _ _ e _ fun v F' ι' H' R' l m rv => hD F' ι' α σ H' R' l m)
theorem fs_popT {t : Tg} {cp : Expr} {as : Ar} (hs : swapsWithSole [tg] cp pos.line X.env = pure false) (hw : swappedStores [tg] cp X.env = pure none) (hn : nmTg tg = true) (ht : FG p X t tg) (h : FP p X ρ S cp (evP G o as ρ S)) : FS p X ρ S (.Assign [tg] cp pos) (evS G (.pop (some t) o as) ρ S) := by
  intro Pr F ι α σ H R o' e D hD
  rw [evS] at e
  obtain ⟨⟨w, S1⟩, e1, e⟩ := Option.bind_eq_some_iff.mp e
  obtain ⟨⟨ds, S2⟩, e2, e⟩ := Option.bind_eq_some_iff.mp e
  split at e
  case isFalse => cases e
  rename_i hd
  obtain ⟨u, e3, e⟩ := Option.bind_eq_some_iff.mp e
  obtain ⟨r, e4, e⟩ := Option.bind_eq_some_iff.mp e
  obtain ⟨⟨ρ', S3⟩, e5, e⟩ := Option.bind_eq_some_iff.mp e
  obtain ⟨ρ2, e6, e7⟩ := Option.map_eq_some_iff.mp e
  cases e7
  have e : evP G o as ρ S = some (r.1, ρ', S3) := by
    unfold evP
    simp only [e1, e2, Option.bind_some]
    rw [if_pos hd]
    simp only [e3, e4, Option.bind_some, e5, Option.map_some]
  exact wS_of (ps_asg peW pgW hs hw (nmTg_each hn)) (h Pr F ι α σ H R _ _ _ e _ fun v F' ι' H' R' l m rv => ht R' rv e6 _ fun σ' R2 _ => hD F' ι' α σ' H' R2 l m)
theorem isD_ofc {Pr F : Hp} {ι : List Addr} {α : Nat → Addr} {σ : L2.St} {H : Hp} {x : V} {w : Hd} (R : Rel p Pr ρ S F ι α σ H) (r : HRep p F ι α x w) (d : isDct (cont ρ S w) = true) : ∃ a, x = .ref a ∧ IsD H a := by
  cases hc : cont ρ S w with
  | none => rw [hc] at d; cases d
  | some u => rw [hc] at d; exact isD_of (cv_of R r hc) d
theorem tyL_ofc {Pr F : Hp} {ι : List Addr} {α : Nat → Addr} {σ : L2.St} {H : Hp} {x : V} {w : Hd} (g : Good p N sc fn k X) (R : Rel p Pr ρ S F ι α σ H) (r : HRep p F ι α x w) (d : isLst (cont ρ S w) = true) : tyV X.K "list" x H := by
  cases hc : cont ρ S w with
  | none => rw [hc] at d; cases d
  | some u => rw [hc] at d; exact ty_lst g (cv_of R r hc) d
theorem fp_pop0 {apos cp : Pos} (g : Good p N sc fn k X) (hb : attributeBase eo "pop" X.env (eval eo X.env) = eval eo X.env) (hl : (apos.endLine == cp.line) = true) (ho : FH p X ρ S eo (hOf o ρ S (evE G o ρ S))) :
    FP p X ρ S (.Call (.Attribute eo "pop" apos) [] [] cp) (evP G o .nil ρ S) := by
  intro Pr F ι α σ H R d ρ' S' e Q q
  unfold evP at e
  obtain ⟨⟨w, S1⟩, e1, e⟩ := Option.bind_eq_some_iff.mp e
  obtain ⟨⟨ds, S2⟩, e2, e⟩ := Option.bind_eq_some_iff.mp e
  split at e
  case isFalse => cases e
  obtain ⟨u, e3, e⟩ := Option.bind_eq_some_iff.mp e
  obtain ⟨r, e4, e⟩ := Option.bind_eq_some_iff.mp e
  obtain ⟨⟨ρ2, S3⟩, e5, e6⟩ := Option.map_eq_some_iff.mp e
  cases e6
  rw [evA] at e2
  cases e2
  cases u <;> try cases e4
  rename_i xs
  obtain ⟨y, e7, e8⟩ := Option.map_eq_some_iff.mp e4
  cases e8
  refine wE_of (pe_bm0 PySem.F.plainAttrs_list PySem.F.slot_list_pop PySem.F.type_list_pop mt_pop peW hb hl) (ho Pr F ι α σ H R _ _ e1 _ fun x F1 ι1 H1 R1 l1 m1 r1 => ?_)
  refine ⟨tyL_ofc g R1 r1 (by rw [e3]; rfl), ?_⟩
  obtain ⟨ad, rfl, cr, wr⟩ := putC_ok R1 r1 e3 e5
  obtain ⟨vs, hH, rs⟩ := cr
  obtain ⟨v, h1, h2⟩ := rs.at e7
  rw [← rs.length] at h1
  refine ⟨ad, vs, v, rfl, rfl, hH, h1, q _ F1 ι1 _ (wr _ fun G hG => ⟨_, hG, ?_⟩) l1 m1 h2⟩
  rw [List.dropLast_eq_take, List.dropLast_eq_take, rs.length]
  exact rs.take _
theorem kvs_look {κ : Type} [DecidableEq κ] {K : PySem.W.Frag} {F : Hp} {ι : List Addr} {kvs : List (κ × V)} {es : List (κ × D)} (k1 : kvs.map (·.1) = es.map (·.1)) (k2 : Reps K F ι (kvs.map (·.2)) (es.map (·.2))) (k : κ) :
    (Z.look es k = none ∧ valV kvs k = none) ∨ ∃ v d, Z.look es k = some d ∧ valV kvs k = some v ∧ Rep K F ι v d := RKV.look k ⟨k1, k2⟩
theorem fp_pop1 {apos cp : Pos} (g : Good p N sc fn k X) (m : M1 X eo "pop" apos ea cp) (h0 : isStar ea = false) (ho : FH p X ρ S eo (hOf o ρ S (evE G o ρ S))) (ha : ∀ S, FE p X ρ S ea (evE G a ρ S)) :
    FP p X ρ S (.Call (.Attribute eo "pop" apos) [ea] [] cp) (evP G o (.cons a .nil) ρ S) := by
  intro Pr F ι α σ H R d ρ' S' e Q q
  unfold evP at e
  obtain ⟨⟨w, S1⟩, e1, e⟩ := Option.bind_eq_some_iff.mp e
  obtain ⟨⟨ds, S2⟩, e2, e⟩ := Option.bind_eq_some_iff.mp e
  split at e
  case isFalse => cases e
  rename_i hd
  obtain ⟨u, e3, e⟩ := Option.bind_eq_some_iff.mp e
  obtain ⟨r, e4, e⟩ := Option.bind_eq_some_iff.mp e
  obtain ⟨⟨ρ2, S3⟩, e5, e6⟩ := Option.map_eq_some_iff.mp e
  cases e6
  rw [e3] at hd
  rw [evA] at e2
  obtain ⟨⟨y, S2'⟩, e7, e8⟩ := Option.bind_eq_some_iff.mp e2
  rw [evA] at e8
  cases e8
  have fa : ∀ S, FA p X ρ S [ea] (evA G (.cons a .nil) ρ S) := fun S => fa_cons h0 (ha S) fun S => fa_nil
  cases u <;> try (cases y <;> cases e4)
  · rename_i xs
    cases y <;> try cases e4
    rename_i i
    simp only [popD] at e4
    split at e4
    case isFalse => cases e4
    rename_i hi
    obtain ⟨kk, e9, e10⟩ := Option.bind_eq_some_iff.mp e4
    obtain ⟨z, e11, e12⟩ := Option.map_eq_some_iff.mp e10
    cases e12
    refine wE_of (pe_bm PySem.F.plainAttrs_list PySem.F.slot_list_pop PySem.F.type_list_pop mt_popAt peW paW m.base m.few m.line (star_cons h0) rfl) (ho Pr F ι α σ H R _ _ e1 _ fun x F1 ι1 H1 R1 l1 m1 r1 => ?_)
    refine ⟨tyL_ofc g R1 r1 hd.1, fa S1 Pr F1 ι1 α σ H1 R1 _ _ (by rw [evA]; exact e2) _ fun vs F2 ι2 H2 R2 l2 m2 rs => ?_⟩
    cases rs with
    | cons rv rs =>
    cases rs
    cases rv
    obtain ⟨ad, rfl, cr, wr⟩ := putC_ok R2 (r1.le l2 m2) e3 e5
    obtain ⟨vs, hH, rs⟩ := cr
    obtain ⟨v, h1, h2⟩ := rs.at e11
    obtain ⟨b1, b2⟩ := smallI_ok hi
    exact ⟨ad, vs, _, kk, v, rfl, rfl, hH, by omega, by omega, by rw [rs.length]; exact e9, h1, q _ F2 ι2 _ (wr _ fun G hG => ⟨_, hG, rs.erase _⟩) (l1.trans l2) (m1.trans m2) h2⟩
  · rename_i es
    obtain ⟨key, e9, e10⟩ := Option.bind_eq_some_iff.mp e4
    obtain ⟨z, e11, e12⟩ := Option.map_eq_some_iff.mp e10
    cases e12
    refine wE_of (pe_dpop1 peW peW m) (ho Pr F ι α σ H R _ _ e1 _ fun x F1 ι1 H1 R1 l1 m1 r1 => ?_)
    obtain ⟨ad, rfl, hI⟩ := isD_ofc R1 r1 hd.2
    refine ⟨ad, rfl, hI, ha S1 Pr F1 ι1 α σ H1 R1 _ _ e7 _ fun yv F2 ι2 H2 R2 l2 m2 r2 => ?_⟩
    obtain ⟨ad2, ea2, cr, wr⟩ := putC_ok R2 (r1.le l2 m2) e3 e5
    cases ea2
    obtain ⟨kvs, hH, k1, k2⟩ := cr
    have hy := keyK_rep r2 e9
    subst hy
    rcases kvs_look k1 k2 key with ⟨h1, h2⟩ | ⟨v, d, h1, h2, h3⟩
    · rw [h1] at e11; cases e11
    · rw [h1] at e11; cases e11
      refine ⟨kvs, key, v, hH, rfl, h2, q _ F2 ι2 _ (wr _ fun G hG => ?_) (l1.trans l2) (m1.trans m2) h3⟩
      obtain ⟨z1, z2⟩ := RKV.drop key (⟨k1, k2⟩ : RKV p.K F2 ι2 kvs es)
      exact ⟨_, hG, z1, z2⟩
theorem popD2 {u y z : D} {r : D × D} (e : popD u [y, z] = some r) : ∃ es key, u = .dK es ∧ keyK y = some key ∧ r = match Z.look es key with
    | some v => (v, .dK (ddrop es key))
    | none => (z, .dK es) := by
  cases u with
  | dK es =>
    have e : (keyK y).map (fun k => match Z.look es k with
      | some v => (v, D.dK (ddrop es k))
      | none => (z, .dK es)) = some r := by cases y <;> exact e
    obtain ⟨key, e1, e2⟩ := Option.map_eq_some_iff.mp e
    exact ⟨es, key, rfl, e1, e2.symm⟩
  | _ => cases y <;> cases e
theorem fp_pop2 {apos cp : Pos} (g : Good p N sc fn k X) (m : M2 X eo "pop" apos ea eb cp) (ho : FH p X ρ S eo (hOf o ρ S (evE G o ρ S))) (ha : ∀ S, FE p X ρ S ea (evE G a ρ S)) (hb : ∀ S, FE p X ρ S eb (evE G b ρ S)) :
    FP p X ρ S (.Call (.Attribute eo "pop" apos) [ea, eb] [] cp) (evP G o (.cons a (.cons b .nil)) ρ S) := by
  intro Pr F ι α σ H R d ρ' S' e Q q
  unfold evP at e
  obtain ⟨⟨w, S1⟩, e1, e⟩ := Option.bind_eq_some_iff.mp e
  obtain ⟨⟨ds, S2⟩, e2, e⟩ := Option.bind_eq_some_iff.mp e
  split at e
  case isFalse => cases e
  rename_i hd
  obtain ⟨u, e3, e⟩ := Option.bind_eq_some_iff.mp e
  obtain ⟨r, e4, e⟩ := Option.bind_eq_some_iff.mp e
  obtain ⟨⟨ρ2, S3⟩, e5, e6⟩ := Option.map_eq_some_iff.mp e
  cases e6
  rw [e3] at hd
  rw [evA] at e2
  obtain ⟨⟨y, S2'⟩, e7, e8⟩ := Option.bind_eq_some_iff.mp e2
  rw [evA] at e8
  obtain ⟨⟨ds', S5⟩, e14, e9⟩ := Option.map_eq_some_iff.mp e8
  cases e9
  obtain ⟨⟨z, S6⟩, e10, e11⟩ := Option.bind_eq_some_iff.mp e14
  rw [evA] at e11
  cases e11
  obtain ⟨es, key, rfl, e12, e13⟩ := popD2 e4
  refine wE_of (pe_dpop2 peW peW peW m) (ho Pr F ι α σ H R _ _ e1 _ fun x F1 ι1 H1 R1 l1 m1 r1 => ?_)
  obtain ⟨ad, rfl, hI⟩ := isD_ofc R1 r1 hd.2
  refine ⟨ad, rfl, hI, ha S1 Pr F1 ι1 α σ H1 R1 _ _ e7 _ fun yv F2 ι2 H2 R2 l2 m2 r2 => hb _ Pr F2 ι2 α σ H2 R2 _ _ e10 _ fun zv F3 ι3 H3 R3 l3 m3 r3 => ?_⟩
  obtain ⟨ad2, ea2, cr, wr⟩ := putC_ok R3 ((r1.le l2 m2).le l3 m3) e3 e5
  cases ea2
  obtain ⟨kvs, hH, k1, k2⟩ := cr
  have hy := keyK_rep (r2.le l3 m3) e12
  subst hy
  refine ⟨kvs, key, hH, rfl, ?_, ?_⟩
  · intro v hv
    rcases kvs_look k1 k2 key with ⟨h1, h2⟩ | ⟨v', d, h1, h2, h3⟩
    · rw [h2] at hv; cases hv
    · rw [h2] at hv; cases hv
      rw [h1] at e13; subst e13
      refine q _ F3 ι3 _ (wr _ fun G hG => ?_) ((l1.trans l2).trans l3) ((m1.trans m2).trans m3) h3
      obtain ⟨z1, z2⟩ := RKV.drop key (⟨k1, k2⟩ : RKV p.K F3 ι3 kvs es)
      exact ⟨_, hG, z1, z2⟩
  · intro hv
    rcases kvs_look k1 k2 key with ⟨h1, h2⟩ | ⟨v', d, h1, h2, h3⟩
    · rw [h1] at e13; subst e13
      have := wr (.dK kvs) fun G hG => ⟨kvs, hG, k1, k2⟩
      have hs : upd H3 ad (.dK kvs) = H3 := by
        funext b
        by_cases hb : b = ad
        · subst hb; rw [upd_same, hH]
        · rw [upd_ne hb]
      rw [hs] at this
      exact q _ F3 ι3 _ this ((l1.trans l2).trans l3) ((m1.trans m2).trans m3) r3
    · rw [h2] at hv; cases hv
end
end Z

set_option Elab.async false
set_option linter.all false
set_option maxRecDepth 100000
set_option maxHeartbeats 4000000
namespace Z
open PySem PySem.Spec PyProof.Rows L2

/-! # defs -/
/-- what a def gives back: value and store -/
def Back (p : Pg) (Pr F : Hp) (ι : List Addr) (d : D) (S' : Store) : VK := fun v H' => ∃ F' ι', Wd p Pr S' F' ι' H' ∧ LeH F F' ∧ LeA ι ι' ∧ Rep p.K F' ι' v d
structure FnG (p : Pg) (k : Nat) (f : Addr) (fd : FuncData) (ps : List Str) (g : List D → Store → Option (D × Store)) : Prop where
  len : ∀ ds S r, g ds S = some r → ds.length = ps.length
  run : ∀ (A : Around) (outer : List Env) (s : Shared) (H : Hp) (args : Args) (us : List Value) (vs : List V) (ds : List D) (S S' : Store) (d : D) (Pr F : Hp) (ι : List Addr), Room k A → A.guards = some [] → Env0 p.P p.w p.K p.mg p.base A outer s H → BindsTo s fd args (ps.zip us) →
    Vals vs us → Reps p.K F ι vs ds → Wd p Pr S F ι H → g ds S = some (d, S') →
    codeAny (model p.P p.w) A (.call (.ref f) args) (fun r s' => ∃ u, r = .ok (.ret u) ∧ CE outer p.P p.w H s (Back p Pr F ι d S') u s') s
theorem FnG.mono {p : Pg} {j k : Nat} {f : Addr} {fd : FuncData} {ps : List Str} {g : List D → Store → Option (D × Store)} (h : FnG p j f fd ps g) (l : j ≤ k) : FnG p k f fd ps g :=
  ⟨h.len, fun A outer s H args us vs ds S S' d Pr F ι r => h.run A outer s H args us vs ds S S' d Pr F ι (r.mono l)⟩
/-- the defs keep their promises at level k -/
structure GoodF (p : Pg) (k : Nat) (G : Fns) : Prop extends FldOk p G where
  fn : ∀ x ds S r, G.fn (x, none) ds S = some r → ∃ f fd ps, p.mg x = some (.ref f) ∧ PySem.W.keepIn p.K (.ref f) = true ∧ Binds p.K fd ps [] ∧ FnG p k f fd ps (G.fn (x, none))
  mt : ∀ C m ds S r, G.fn (C, some m) ds S = some r → ∃ Ca f fd ps, p.mg C = some (.ref Ca) ∧ p.cls C = some Ca ∧ Cls p.K Ca ∧ Meth p.K Ca m f ∧ Binds p.K fd ps [] ∧ FnG p k f fd ps (G.fn (C, some m)) ∧ (m = "__init__" → Mk p.K Ca f)
section
open Classical
/-- the names' own containers are the callee's to leave alone -/
noncomputable def grd (Pr : Hp) (ρ : Env') (α : Nat → Addr) (H : Hp) : Hp := fun a => if ∃ i d, ρ[i]? = some (.own d) ∧ α i = a then H a else Pr a
variable {p : Pg} {Pr : Hp} {ρ : Env'} {S : Store} {F : Hp} {ι : List Addr} {α : Nat → Addr} {σ : L2.St} {H : Hp}
theorem grd_wd (R : Rel p Pr ρ S F ι α σ H) : Wd p (grd Pr ρ α H) S F ι H where
  sub := R.wd.sub
  con := R.wd.con
  len := R.wd.len
  nd := R.wd.nd
  cell := R.wd.cell
  prot := fun a o h => by
    unfold grd at h
    split at h
    · rename_i q
      obtain ⟨i, d, h1, rfl⟩ := q
      obtain ⟨k1, k2, k3, k4, k5⟩ := R.own i d h1
      exact ⟨h, .inl k2, fun n c h2 _ => absurd (List.mem_of_getElem? h2) k3⟩
    · exact R.wd.prot a o h
theorem grd_back {S' : Store} {F' : Hp} {ι' : List Addr} {H' : Hp} (R : Rel p Pr ρ S F ι α σ H) (W : Wd p (grd Pr ρ α H) S' F' ι' H') (l : LeH F F') (m : LeA ι ι') : Rel p Pr ρ S' F' ι' α σ H' where
  wd := {
    sub := W.sub
    con := W.con
    len := W.len
    nd := W.nd
    cell := W.cell
    prot := fun a o h => by
      refine W.prot a o ?_
      unfold grd
      split
      · rename_i q
        obtain ⟨i, d, h1, rfl⟩ := q
        rw [(R.own i d h1).2.2.2.2] at h; cases h
      · exact h }
  fz := fun i d h => let ⟨v, h1, h2⟩ := R.fz i d h; ⟨v, h1, h2.le l m⟩
  own := fun i d h => by
    obtain ⟨k1, k2, k3, k4, k5⟩ := R.own i d h
    obtain ⟨o, t, _, _, nl⟩ := k4.there
    have hg : grd Pr ρ α H (α i) = some o := by
      unfold grd
      rw [if_pos ⟨i, d, h, rfl⟩]; exact t
    obtain ⟨q1, q2, q3⟩ := W.prot _ _ hg
    refine ⟨k1, q2.resolve_right nl, fun hm => ?_, k4.le l m (q1.trans t.symm), k5⟩
    obtain ⟨n, hn⟩ := List.getElem?_of_mem hm
    have hl : n < S'.length := by rw [← W.len]; exact (List.getElem?_eq_some_iff.mp hn).1
    obtain ⟨d', hd⟩ := q3 n S'[n] hn (List.getElem?_eq_getElem hl)
    obtain ⟨_, c⟩ := W.cell n S'[n] _ (List.getElem?_eq_getElem hl) hn
    rw [hd] at c
    obtain ⟨ob, o', c⟩ := LRep.there c
    rw [q1] at c; cases c
    exact nl trivial
  lng := R.lng
  inj := R.inj
end
section
variable {p : Pg} {N : List Str} {sc : Scope} {fn : Str → Bool} {k : Nat} {X : Cx} {G : Fns} {ρ : Env'} {S : Store} {e ea eb ec eo tg : Expr} {pos : Pos} {a b c o : Ex}
/-- a callee runs -/
theorem go_fn {f : Addr} {fd : FuncData} {ps : List Str} {gf : List D → Store → Option (D × Store)} {Pr F : Hp} {ι : List Addr} {α : Nat → Addr} {σ : L2.St} {H : Hp} {pins : List (Addr × Obj)} {s : Shared} {us : List Value} {vs : List V} {ds : List D} {d : D} {S' : Store} {Q : VK}
    (K : FnG p k f fd ps gf) (hb : Binds p.K fd ps []) (g : Good p N sc fn (k + 1) X) (I : Inv X pins σ H s) (rv : Vals vs us) (R : Rel p Pr ρ S F ι α σ H) (rs : Reps p.K F ι vs ds) (e : gf ds S = some (d, S'))
    (q : ∀ v F' ι' H', Rel p Pr ρ S' F' ι' α σ H' → LeH F F' → LeA ι ι' → Rep p.K F' ι' v d → Q v H') : wpAny (model X.prog X.w) X.A (call (.ref f) us) (EP X pins σ Q) X.xe s := by
  obtain ⟨cl, cn, rfl⟩ : ∃ cl cn, p = X.pg cl cn := ⟨p.cls, p.con, g.pg.symm⟩
  have hl : us.length = ps.length := by rw [← rv.length, rs.length]; exact K.len _ _ _ e
  have bd := hb s us I.kIn (by rw [List.append_nil]; exact hl)
  rw [List.append_nil] at bd
  refine wpAny_call (codeAny_mono (K.run X.A X.stack s H ⟨us, []⟩ us vs ds S S' d _ F ι (g.room.mono (Nat.le_succ _)) g.grd I.env0 bd rv rs (grd_wd R) e) fun r s' hr => ?_)
  obtain ⟨u, rfl, v, H', os, bare, un, hok, ru, F', ι', W, l, m, rr⟩ := hr
  exact I.after ⟨v, H', os, bare, un, hok, ru, q v F' ι' H' (grd_back R W l m) l m rr⟩
theorem fe_call {x : Str} {ps : Pos} {es : List Expr} {as : Ar} (g : Good p N sc fn (k + 1) X) (gf : GoodF p k G) (hg : sc.names.lookup x = some .globalImplicit) (hd : (x == ("__debug__" : Str)) = false) (h0 : isStar ea = false) (hpl : (es.all fun e => !isStar e) = true) (ha : FA p X ρ S (ea :: es) (evA G as ρ S)) :
    FE p X ρ S (.Call (.Name x ps) (ea :: es) [] pos) (evE G (.call x as) ρ S) := by
  intro Pr F ι α σ H R d S' e Q q pins s I
  rw [evE] at e
  obtain ⟨⟨ds, S1⟩, e1, e2⟩ := Option.bind_eq_some_iff.mp e
  obtain ⟨f, fd, prm, m1, kp, bd, K⟩ := gf.fn x _ _ _ e2
  have hG : Gl X x := by show X.env.scope.names.lookup x = _; rw [g.sc]; exact hg
  have hM : X.mg x = some (.ref f) := by rw [← m1, ← g.pg]; rfl
  have hk : PySem.W.keepIn X.K (.ref f) = true := by rw [g.K]; exact kp
  have wa := ha Pr F ι α σ H R _ _ e1 (fun vs H' => ∃ F' ι', Rel p Pr ρ S1 F' ι' α σ H' ∧ LeH F F' ∧ LeA ι ι' ∧ Reps p.K F' ι' vs ds) fun vs F' ι' H' R' l m rs => ⟨F', ι', R', l, m, rs⟩
  refine wpAny_Call_Name_kw (ld_glob I hG hM ?_ hd)
  refine PySem.W.callWith_K (h₀ := X.base) I.ok.mod.kin hk (thn (wa pos pins s I) fun us s1 hx => ?_) (star_cons h0) (star_all hpl).1
  obtain ⟨vs, H1, I1, rv, F1, ι1, R1, l1, mm, rs⟩ := hx
  exact ⟨I1.kIn, go_fn K bd g I1 rv R1 rs e2 fun v F' ι' H' R' l m rr => q v F' ι' H' R' (l1.trans l) (mm.trans m) rr⟩
theorem fe_call0 {x : Str} {ps : Pos} (g : Good p N sc fn (k + 1) X) (gf : GoodF p k G) (hg : sc.names.lookup x = some .globalImplicit) (hd : (x == ("__debug__" : Str)) = false) :
    FE p X ρ S (.Call (.Name x ps) [] [] pos) (evE G (.call x .nil) ρ S) := by
  intro Pr F ι α σ H R d S' e Q q pins s I
  rw [evE] at e
  obtain ⟨⟨ds, S1⟩, e1, e2⟩ := Option.bind_eq_some_iff.mp e
  rw [evA] at e1
  cases e1
  obtain ⟨f, fd, prm, m1, kp, bd, K⟩ := gf.fn x _ _ _ e2
  have hG : Gl X x := by show X.env.scope.names.lookup x = _; rw [g.sc]; exact hg
  have hM : X.mg x = some (.ref f) := by rw [← m1, ← g.pg]; rfl
  have hk : PySem.W.keepIn X.K (.ref f) = true := by rw [g.K]; exact kp
  refine wpAny_Call_Name_kw (ld_glob I hG hM ?_ hd)
  exact PySem.W.callWith_K0 I.kIn hk (go_fn (us := []) K bd g I .nil R .nil e2 q)
theorem getm {Pr F : Hp} {ι : List Addr} {α : Nat → Addr} {σ : L2.St} {H : Hp} {x : V} {n : Nat} {C : Str} {fs : List (Str × D)} (R : Rel p Pr ρ S F ι α σ H) (r : Rep p.K F ι x (.ref n)) (hc : S[n]? = some (.ins C fs)) :
    ∃ ad Ca dx fv, x = .ref ad ∧ p.cls C = some Ca ∧ H ad = some (.ins Ca dx fv) ∧ ∀ m : Str, (fs.lookup m).isNone = true → fv.lookup m = none := by
  cases r with
  | @ref n ad hn =>
  obtain ⟨b, hb, hF, Ca, dx, fv, h1, h2, h3, h4⟩ := R.wd.at hc
  rw [hn] at hb; cases hb
  exact ⟨ad, Ca, dx, fv, rfl, h1, h2, fun m hm => fs_none h3 hm⟩
theorem fe_meth {m : Str} {apos : Pos} {es : List Expr} {as : Ar} {pl : Sem Bool} (g : Good p N sc fn (k + 1) X) (gf : GoodF p k G) (h0 : isStar ea = false) (hpl : (es.all fun e => !isStar e) = true)
    (ht : eval (.Call (.Attribute eo m apos) (ea :: es) [] pos) X.env = (do
      let ov ← eval eo X.env
      standAt apos.atName
      let (f, first) ← holding [ov] (getMethod ov m pl)
      callWith pos f first (backTo pos (starEach (ea :: es) X.env)) (backToKw pos (keywordEach [] X.env))))
    (ho : FE p X ρ S eo (evE G o ρ S)) (ha : ∀ S, FA p X ρ S (ea :: es) (evA G as ρ S)) : FE p X ρ S (.Call (.Attribute eo m apos) (ea :: es) [] pos) (evE G (.meth o m as) ρ S) := by
  intro Pr F ι α σ H R d S' e Q q pins s I
  rw [evE] at e
  obtain ⟨⟨u, S1⟩, e1, e⟩ := Option.bind_eq_some_iff.mp e
  cases u <;> try cases e
  rename_i n
  simp only at e
  split at e
  case h_2 => cases e
  rename_i C fs hc
  split at e
  case isFalse => cases e
  rename_i hfs
  obtain ⟨⟨ds, S2⟩, e2, e3⟩ := Option.bind_eq_some_iff.mp e
  obtain ⟨Ca, f, fd, prm, m0, m1, cl, mt, bd, K, _⟩ := gf.mt C m _ _ _ e3
  rw [← g.K] at cl mt
  have wo := ho Pr F ι α σ H R _ _ e1 (fun v H' => ∃ F' ι', Rel p Pr ρ S1 F' ι' α σ H' ∧ LeH F F' ∧ LeA ι ι' ∧ Rep p.K F' ι' v (.ref n)) fun v F' ι' H' R' l m r => ⟨F', ι', R', l, m, r⟩
  refine PySem.W.methodCall_KW (pl := pl) (thn (wo pins s I) fun w s1 hx => ?_) ht
  obtain ⟨x, H1, I1, rx, F1, ι1, R1, l1, m1', r1⟩ := hx
  obtain ⟨ad, Ca', dx, fv, rfl, k1, k2, k3⟩ := getm R1 r1 hc
  rw [m1] at k1; cases k1
  obtain rfl : w = Value.ref ad := rx
  refine getmeth_ok I1 k2 cl mt (k3 m hfs) ?_
  have wa := ha S1 Pr F1 ι1 α σ H1 R1 _ _ e2 (fun vs H' => ∃ F' ι', Rel p Pr ρ S2 F' ι' α σ H' ∧ LeH F1 F' ∧ LeA ι1 ι' ∧ Reps p.K F' ι' vs ds) fun vs F' ι' H' R' l m rs => ⟨F', ι', R', l, m, rs⟩
  refine PySem.W.callWith_K (first := [.ref ad]) (h₀ := X.base) I.ok.mod.kin mt.kp (thn (wa pos pins s1 I1) fun us s2 hx => ?_) (star_cons h0) (star_all hpl).1
  obtain ⟨vs, H2, I2, rv, F2, ι2, R2, l2, m2, rs⟩ := hx
  exact ⟨I2.kIn, go_fn (us := .ref ad :: us) (vs := .ref ad :: vs) K bd g I2 (.cons rfl rv) R2 (.cons (r1.le l2 m2) rs) e3 fun v F' ι' H' R' l m rr => q v F' ι' H' R' ((l1.trans l2).trans l) ((m1'.trans m2).trans m) rr⟩
theorem fe_meth0 {m : Str} {apos : Pos} {pl : Sem Bool} (g : Good p N sc fn (k + 1) X) (gf : GoodF p k G)
    (ht : eval (.Call (.Attribute eo m apos) [] [] pos) X.env = (do
      let ov ← eval eo X.env
      standAt apos.atName
      let (f, first) ← holding [ov] (getMethod ov m pl)
      callWith pos f first (backTo pos (starEach [] X.env)) (backToKw pos (keywordEach [] X.env))))
    (ho : FE p X ρ S eo (evE G o ρ S)) : FE p X ρ S (.Call (.Attribute eo m apos) [] [] pos) (evE G (.meth o m .nil) ρ S) := by
  intro Pr F ι α σ H R d S' e Q q pins s I
  rw [evE] at e
  obtain ⟨⟨u, S1⟩, e1, e⟩ := Option.bind_eq_some_iff.mp e
  cases u <;> try cases e
  rename_i n
  simp only at e
  split at e
  case h_2 => cases e
  rename_i C fs hc
  split at e
  case isFalse => cases e
  rename_i hfs
  obtain ⟨⟨ds, S2⟩, e2, e3⟩ := Option.bind_eq_some_iff.mp e
  rw [evA] at e2
  cases e2
  obtain ⟨Ca, f, fd, prm, m0, m1, cl, mt, bd, K, _⟩ := gf.mt C m _ _ _ e3
  rw [← g.K] at cl mt
  have wo := ho Pr F ι α σ H R _ _ e1 (fun v H' => ∃ F' ι', Rel p Pr ρ S1 F' ι' α σ H' ∧ LeH F F' ∧ LeA ι ι' ∧ Rep p.K F' ι' v (.ref n)) fun v F' ι' H' R' l m r => ⟨F', ι', R', l, m, r⟩
  refine PySem.W.methodCall_KW (pl := pl) (thn (wo pins s I) fun w s1 hx => ?_) ht
  obtain ⟨x, H1, I1, rx, F1, ι1, R1, l1, m1', r1⟩ := hx
  obtain ⟨ad, Ca', dx, fv, rfl, k1, k2, k3⟩ := getm R1 r1 hc
  rw [m1] at k1; cases k1
  obtain rfl : w = Value.ref ad := rx
  refine getmeth_ok I1 k2 cl mt (k3 m hfs) ?_
  exact PySem.W.callWith_K0 (first := [.ref ad]) I1.kIn mt.kp (go_fn (us := [.ref ad]) (vs := [.ref ad]) K bd g I1 (.cons rfl .nil) R1 (.cons r1 .nil) e3 fun v F' ι' H' R' l m rr => q v F' ι' H' R' (l1.trans l) (m1'.trans m) rr)
theorem go_mk {C : Str} {Ca f : Addr} {fd : FuncData} {ps : List Str} {gf : List D → Store → Option (D × Store)} {Pr F : Hp} {ι : List Addr} {α : Nat → Addr} {σ : L2.St} {H : Hp} {pins : List (Addr × Obj)} {s : Shared} {us : List Value} {vs : List V} {ds : List D} {S' : Store} {Q : VK}
    (hC : p.cls C = some Ca) (M : Mk p.K Ca f) (K : FnG p k f fd ps gf) (hb : Binds p.K fd ps []) (g : Good p N sc fn (k + 1) X) (I : Inv X pins σ H s) (rv : Vals vs us) (R : Rel p Pr ρ S F ι α σ H) (rs : Reps p.K F ι vs ds) (e : gf (.ref S.length :: ds) (S ++ [.ins C []]) = some (.non, S'))
    (q : ∀ v F' ι' H', Rel p Pr ρ S' F' ι' α σ H' → LeH F F' → LeA ι ι' → Rep p.K F' ι' v (.ref S.length) → Q v H') : wpAny (model X.prog X.w) X.A (call (.ref Ca) us) (EP X pins σ Q) X.xe s := by
  obtain ⟨cl, cn, rfl⟩ : ∃ cl cn, p = X.pg cl cn := ⟨p.cls, p.con, g.pg.symm⟩
  have I2 := Inv.made (C := Ca) I
  generalize hd : s.heap.objs.size = dx at I2
  have n1 : H dx = none := I.hok.fresh (Nat.le_of_eq hd)
  have n2 : H (dx + 1) = none := I.hok.fresh (by rw [hd]; exact Nat.le_succ _)
  have ne : dx ≠ dx + 1 := Nat.ne_of_lt (Nat.lt_succ_self _)
  have n3 : upd H dx (.own (dx + 1)) (dx + 1) = none := by rw [upd_ne (fun z => ne z.symm)]; exact n2
  have R1 := R.grow (F' := F) (H' := upd (upd H dx (.own (dx + 1))) (dx + 1) (.ins Ca dx [])) ⟨(LeH.upd n1).trans (LeH.upd n3), LeH.refl _, fun b u z => .inl z⟩
  have hF := R.wd.fresh n2
  obtain ⟨R2, at2⟩ := R1.addC (a := dx + 1) (c := .ins C []) ⟨Ca, dx, [], hC, upd_same, rfl, .nil⟩ hF (R.wd.notin n2) (by
    cases z : Pr (dx + 1) with
    | none => rfl
    | some u => rw [(R.wd.prot _ u z).1] at n2; cases n2) (fun j e hj z => by
    obtain ⟨_, _, _, h4, _⟩ := R.own j e hj
    obtain ⟨u, t, _⟩ := h4.there
    rw [z, n2] at t; cases t)
  have rs2 : Reps X.K F (ι ++ [dx + 1]) (.ref (dx + 1) :: vs) (.ref S.length :: ds) := .cons (.ref at2) (rs.le (LeH.refl _) (LeA.app _ _))
  have rv2 : Vals (V.ref (dx + 1) :: vs) (Value.ref (dx + 1) :: us) := .cons rfl rv
  have hl : (Value.ref (dx + 1) :: us).length = ps.length := by rw [← rv2.length, rs2.length]; exact K.len _ _ _ e
  subst hd
  have bd := hb _ (Value.ref (s.heap.objs.size + 1) :: us) I2.kIn (by rw [List.append_nil]; exact hl)
  rw [List.append_nil] at bd
  have gd : (X.A.under (.builtin "type.__call__" ⟨.ref Ca :: us, []⟩)).guards = some [] := by
    first
      | exact g.grd
      | (simpa [Around.under, Code.isGuard, guardIds] using g.grd)
  refine wpAny_call (make_map (f := f) I.kIn M.makes M.init (beq_iff_eq.mp M.fn) (codeAny_mono (K.run _ X.stack _ _ ⟨Value.ref (s.heap.objs.size + 1) :: us, []⟩ (Value.ref (s.heap.objs.size + 1) :: us) _ _ _ _ _ _ F (ι ++ [s.heap.objs.size + 1]) (g.room.make Ca us []) gd (I2.env0.make Ca us []) bd rv2 rs2 (grd_wd R2) e) fun r s' hr => ?_))
  obtain ⟨u, rfl, v, H', os, bare, un, hok, ru, F', ι', W, l, m, rr⟩ := hr
  obtain ⟨v', H2, I3, rv', ev, hq⟩ := I2.after (Q := fun v'' H2 => v'' = v ∧ H2 = H') ⟨v, H', os, bare, un, hok, ru, rfl, rfl⟩
  cases rr
  subst ev hq
  exact ⟨rv', .ref (s.heap.objs.size + 1), H2, I3, rfl, q _ F' ι' H2 (grd_back R2 W l m) l ((LeA.app _ _).trans m) (.ref (m _ _ at2))⟩
theorem mk_non {y : D × Store} {n : Nat} {d : D} {S' : Store} (e : (match y.1 with
      | .non => some (D.ref n, y.2)
      | _ => none) = some (d, S')) : y = (.non, S') ∧ d = .ref n := by
  obtain ⟨y1, y2⟩ := y
  cases y1 <;> cases e
  exact ⟨rfl, rfl⟩
theorem fe_mk {x : Str} {ps : Pos} {es : List Expr} {as : Ar} (g : Good p N sc fn (k + 1) X) (gf : GoodF p k G) (hg : sc.names.lookup x = some .globalImplicit) (hd : (x == ("__debug__" : Str)) = false) (h0 : isStar ea = false) (hpl : (es.all fun e => !isStar e) = true) (ha : FA p X ρ S (ea :: es) (evA G as ρ S)) :
    FE p X ρ S (.Call (.Name x ps) (ea :: es) [] pos) (evE G (.mk x as) ρ S) := by
  intro Pr F ι α σ H R d S' e Q q pins s I
  rw [evE] at e
  obtain ⟨⟨ds, S1⟩, e1, e2⟩ := Option.bind_eq_some_iff.mp e
  obtain ⟨y, e4, e3⟩ := Option.bind_eq_some_iff.mp e2
  obtain ⟨rfl, rfl⟩ := mk_non e3
  obtain ⟨Ca, f, fd, prm, m0, m1, cl, mt, bd, K, mk⟩ := gf.mt x _ _ _ _ e4
  have mk := mk rfl
  have hG : Gl X x := by show X.env.scope.names.lookup x = _; rw [g.sc]; exact hg
  have hM : X.mg x = some (.ref Ca) := by rw [← m0, ← g.pg]; rfl
  have hk : PySem.W.keepIn X.K (.ref Ca) = true := by rw [g.K]; exact mk.kp
  have wa := ha Pr F ι α σ H R _ _ e1 (fun vs H' => ∃ F' ι', Rel p Pr ρ S1 F' ι' α σ H' ∧ LeH F F' ∧ LeA ι ι' ∧ Reps p.K F' ι' vs ds) fun vs F' ι' H' R' l m rs => ⟨F', ι', R', l, m, rs⟩
  refine wpAny_Call_Name_kw (ld_glob I hG hM ?_ hd)
  refine PySem.W.callWith_K (h₀ := X.base) I.ok.mod.kin hk (thn (wa pos pins s I) fun us s1 hx => ?_) (star_cons h0) (star_all hpl).1
  obtain ⟨vs, H1, I1, rv, F1, ι1, R1, l1, mm, rs⟩ := hx
  exact ⟨I1.kIn, go_mk m1 mk K bd g I1 rv R1 rs e4 fun v F' ι' H' R' l m rr => q v F' ι' H' R' (l1.trans l) (mm.trans m) rr⟩
theorem fe_mk0 {x : Str} {ps : Pos} (g : Good p N sc fn (k + 1) X) (gf : GoodF p k G) (hg : sc.names.lookup x = some .globalImplicit) (hd : (x == ("__debug__" : Str)) = false) :
    FE p X ρ S (.Call (.Name x ps) [] [] pos) (evE G (.mk x .nil) ρ S) := by
  intro Pr F ι α σ H R d S' e Q q pins s I
  rw [evE] at e
  obtain ⟨⟨ds, S1⟩, e1, e2⟩ := Option.bind_eq_some_iff.mp e
  rw [evA] at e1
  cases e1
  obtain ⟨y, e4, e3⟩ := Option.bind_eq_some_iff.mp e2
  obtain ⟨rfl, rfl⟩ := mk_non e3
  obtain ⟨Ca, f, fd, prm, m0, m1, cl, mt, bd, K, mk⟩ := gf.mt x _ _ _ _ e4
  have mk := mk rfl
  have hG : Gl X x := by show X.env.scope.names.lookup x = _; rw [g.sc]; exact hg
  have hM : X.mg x = some (.ref Ca) := by rw [← m0, ← g.pg]; rfl
  have hk : PySem.W.keepIn X.K (.ref Ca) = true := by rw [g.K]; exact mk.kp
  refine wpAny_Call_Name_kw (ld_glob I hG hM ?_ hd)
  exact PySem.W.callWith_K0 I.kIn hk (go_mk (us := []) m1 mk K bd g I .nil R .nil e4 q)
end

/-! # a def by its body -/
def stS (N : List Str) (ps : List Str) (ds : List D) : Env' := ds.map Slot.fz ++ List.replicate (N.length - ps.length) .un
def outR : Out → Option (D × Store)
  | .ret d S' => some (d, S')
  | .nxt _ S' => some (.non, S')
  | _ => none
theorem rel_start {p : Pg} {Pr : Hp} {S : Store} {F : Hp} {ι : List Addr} {H : Hp} {N ps : List Str} {vs : List V} {ds : List D} (α : Nat → Addr) (W : Wd p Pr S F ι H) (rs : Reps p.K F ι vs ds) (hl : ds.length = ps.length) : Rel p Pr (stS N ps ds) S F ι α (L2.start N vs) H where
  wd := W
  fz := fun i d h => by
    unfold stS at h
    by_cases hi : i < ds.length
    · rw [List.getElem?_append_left (by simpa using hi), List.getElem?_map] at h
      obtain ⟨e, h1, h2⟩ := Option.map_eq_some_iff.mp h
      cases h2
      obtain ⟨v, h3, h4⟩ := rs.at h1
      refine ⟨v, ?_, h4⟩
      unfold L2.start
      rw [List.getElem?_append_left (by rw [List.length_map, rs.length]; exact hi), List.getElem?_map, h3]; rfl
    · rw [List.getElem?_append_right (by simpa using hi), List.getElem?_replicate] at h
      split at h <;> cases h
  own := fun i d h => by
    unfold stS at h
    by_cases hi : i < ds.length
    · rw [List.getElem?_append_left (by simpa using hi), List.getElem?_map] at h
      obtain ⟨e, h1, h2⟩ := Option.map_eq_some_iff.mp h
      cases h2
    · rw [List.getElem?_append_right (by simpa using hi), List.getElem?_replicate] at h
      split at h <;> cases h
  lng := by
    unfold stS L2.start
    rw [List.length_append, List.length_append, List.length_map, List.length_map, List.length_replicate, List.length_replicate, rs.length, hl]
    exact Nat.le_refl _
  inj := fun i j d e h _ _ => by
    unfold stS at h
    by_cases hi : i < ds.length
    · rw [List.getElem?_append_left (by simpa using hi), List.getElem?_map] at h
      obtain ⟨e, h1, h2⟩ := Option.map_eq_some_iff.mp h
      cases h2
    · rw [List.getElem?_append_right (by simpa using hi), List.getElem?_replicate] at h
      split at h <;> cases h
theorem def_ok {p : Pg} {k : Nat} {f : Addr} {name qual : Str} {params : Arguments} {body : List Stmt} {scope : Scope} {dV kV doc pm cdv ct oc : Value} {an od : Option Addr} {osl : Array (Option Value)} {N ps : List Str} {r : Env' → Store → Option Out}
    (lk : p.K.lookup f = some ⟨oc, od, .func (PySem.W.fnOf name qual params body scope dV kV doc pm an cdv ct), osl⟩) (hcd : PySem.W.codeIn p.K cdv qual = true) (sc : FnScope N ps scope)
    (hb : ∀ X, Good p N scope (fun _ => true) k X → ∀ ρ S, FSs p X ρ S body (r ρ S)) :
    FnG p (k + 1) f (PySem.W.fnOf name qual params body scope dV kV doc pm an cdv ct) ps (fun ds S => if ds.length = ps.length then (r (stS N ps ds) S).bind outR else none) := by
  refine ⟨fun ds S q h => ?_, fun A outer s H args us vs ds S S' d Pr F ι hr hg e0 hbd rv rs W e => ?_⟩
  · split at h
    · assumption
    · cases h
  · split at e
    case isFalse => cases e
    rename_i hl
    obtain ⟨o, e1, e2⟩ := Option.bind_eq_some_iff.mp e
    have hl2 : vs.length = ps.length := by rw [rs.length]; exact hl
    have KX : p.K.In s.heap := e0.mod.kin.keeps fun b ob z => (e0.bs b ob z).1
    have lim : s.heap.NoLimit := e0.mod.nolimit.keeps fun b ob z => (e0.bs b ob z).1
    have kinds : ∀ y ∈ ps.zip us, scope.names.lookup y.1 = some .local ∨ (scope.names.lookup y.1 = some .cell ∧ ((cellsFrom (s.heap.objs.size + 1) scope.names []).lookup y.1).isSome = true) := fun ⟨n, v⟩ hy =>
      (sc.par n (List.of_mem_zip hy).1).imp id fun z => ⟨z, PySem.W.cellsFrom_some _ _ _ (.inl z)⟩
    refine codeAny_call_function hr.depth (KX _ _ lk) rfl sc.co sc.gen rfl (PySem.W.codeRec_of KX hcd) (hbd _ _ _ _ ?_)
    refine wpAny_newFunctionEnv_cells sc.kind kinds fun env he s1 x => ?_
    subst he
    refine ⟨lim.keeps x.toInCall.keep, codeAny_func ?_⟩
    have I : Inv (cxOf CX0 p.P p.w p.K p.mg p.base N qual scope f cdv A outer s H E0) [] (L2.start N vs) H s1 := inv_start sc hr.hd e0 hl2 rv x
    have good : Good p N scope (fun _ => true) k (cxOf CX0 p.P p.w p.K p.mg p.base N qual scope f cdv A outer s H E0).nox := {
      pg := rfl
      calm := rfl
      hN := rfl
      nd := sc.nd
      sc := rfl
      fn := rfl
      xe := rfl
      room := hr.deeper _
      grd := hg }
    have pss : PSs (cxOf CX0 p.P p.w p.K p.mg p.base N qual scope f cdv A outer s H E0) body (wSs (cxOf CX0 p.P p.w p.K p.mg p.base N qual scope f cdv A outer s H E0).nox body) := PSs.nox pssW
    have fin : ∀ {σ' : L2.St} {H' : Hp} {v : V} {u : Value} {s' : Shared}, Inv (cxOf CX0 p.P p.w p.K p.mg p.base N qual scope f cdv A outer s H E0) [] σ' H' s' → RelV v u → Back p Pr F ι d S' v H' → CE outer p.P p.w H s (Back p Pr F ι d S') u s' :=
      fun {σ' H' v u s'} J z q => ⟨v, H', J.os, J.bare, J.base, J.hok, z, q⟩
    refine wpAny_mono (pss.run [] s1 (L2.start N vs) H { nx := fun _ H' => Back p Pr F ι d S' .non H', rt := Back p Pr F ι d S' } I (hb _ good _ S Pr F ι (fun _ => 0) _ H (rel_start _ W rs hl) o e1 _ ?_)) (fun fl s' hs => ?_) fun ex s' hs => ?_
    · cases o with
      | nxt ρ2 S2 =>
        cases e2
        exact fun F' ι' α' σ' H' R' l m => ⟨F', ι', R'.wd, l, m, .non⟩
      | ret d2 S2 =>
        cases e2
        exact fun v F' ι' H' W' l m z => ⟨F', ι', W', l, m, z⟩
      | brk ρ2 S2 => cases e2
      | cnt ρ2 S2 => cases e2
    · cases fl with
      | ret u =>
        obtain ⟨v, σ', H', J, z, q⟩ := hs
        exact ⟨u, rfl, fin J z q⟩
      | next =>
        obtain ⟨σ', H', J, q⟩ := hs
        exact ⟨.none, rfl, fin (v := V.non) (u := Value.none) J rfl q⟩
      | brk =>
        obtain ⟨_, _, _, q⟩ := hs
        exact False.elim q
      | cont =>
        obtain ⟨_, _, _, q⟩ := hs
        exact False.elim q
    · exact wpAny_mono hs (fun _ _ z => False.elim z) (fun _ _ z => False.elim z)
end Z

set_option Elab.async false
set_option linter.all false
set_option maxRecDepth 100000
set_option maxHeartbeats 4000000
namespace Z
open PySem PySem.Spec PyProof.Rows L2

/-! # what must be seen of the text -/
def noCall : Expr → Bool
  | .Call _ [] _ _ => false
  | _ => true
theorem attr_ok {e : Expr} {f : Str} {env : Env} {w : Sem Value} (h : noCall e = true) : attributeBase e f env w = w := by
  unfold attributeBase
  cases e <;> try rfl
  rename_i fe args kws pos
  cases args with
  | nil => cases h
  | cons a as => cases fe <;> rfl
def noSet : Expr → Bool
  | .Set _ _ _ => false
  | _ => true
theorem mark_ok {o : CmpOp} {e : Expr} (h : noSet e = true) : behindInMarks o e = false := by
  cases e <;> first | rfl | cases h
theorem fold_ok {e : Expr} {env : Env} (h : noSet e = true) (x : Value) : foldedSetIterable e env x = pure x := by
  cases e <;> first | rfl | cases h
def isComp : Expr → Bool
  | .ListComp _ _ _ _ => true | .SetComp _ _ _ _ => true | .DictComp _ _ _ _ _ => true
  | _ => false
def isName : Expr → Bool
  | .Name _ _ => true
  | _ => false
theorem sw_no {v : Expr} {t : Option Expr} {l : Nat} {env : Env} (h : isComp v = false) : swapsWith v t l env = pure false := by
  cases v <;> first | rfl | cases h
theorem sw_tg {v t : Expr} {l : Nat} {env : Env} (h : isComp v = false ∨ isName t = false) : swapsWith v (some t) l env = pure false := by
  rcases h with h | h
  · exact sw_no h
  · cases v <;> first | rfl | (cases t <;> first | rfl | cases h)
/-- no plain name of the def's own -/
def offLoc (sc : Scope) : Expr → Bool
  | .Name x _ => decide (sc.names.lookup x ≠ some .local)
  | _ => true
theorem sw_off {v t : Expr} {l : Nat} {env : Env} {sc : Scope} (he : env.scope = sc) (h : isComp v = false ∨ offLoc sc t = true) : swapsWith v (some t) l env = pure false := by
  rcases h with h | h
  · exact sw_no h
  · cases t with
    | Name x p =>
      have hn : (env.kindOf x == some NameKind.local) = false := by
        unfold Env.kindOf
        rw [he, beq_eq_false_iff_ne]
        exact of_decide_eq_true h
      have hz : ∀ (a b c : Bool), (a && (env.kindOf x == some NameKind.local) && b && c) = false := fun a b c => by rw [hn]; simp
      cases v <;> first | rfl | (unfold swapsWith; simp only [hz])
    | _ => exact sw_tg (.inr rfl)
theorem sws_off {v t : Expr} {l : Nat} {env : Env} {sc : Scope} (he : env.scope = sc) (h : isComp v = false ∨ offLoc sc t = true) : swapsWithSole [t] v l env = pure false := sw_off he h
theorem sws_tg {v t : Expr} {l : Nat} {env : Env} (h : isComp v = false ∨ isName t = false) : swapsWithSole [t] v l env = pure false := sw_tg h
def bigTup : Expr → Bool
  | .Tuple es _ _ => decide (4 ≤ es.length)
  | _ => false
/-- no stores from the right -/
def noSwap (sc : Scope) (t v : Expr) : Bool := match t, v with
  | .Tuple ts _ _, .Tuple vs _ _ => decide (4 ≤ ts.length) || (vs.all (foldedForSure 8) || ts.any (offLoc sc))
  | .List _ _, _ => false
  | _, _ => true
theorem ss_no {t v : Expr} {env : Env} {sc : Scope} (he : env.scope = sc) (h : noSwap sc t v = true) : swappedStores [t] v env = pure none := by
  unfold swappedStores
  cases t <;> try rfl
  · cases h
  · cases v <;> try rfl
    rename_i ts k pos vs k2 pos2
    have h : (decide (4 ≤ ts.length) || (vs.all (foldedForSure 8) || ts.any (offLoc sc))) = true := h
    simp only
    split
    · rfl
    rename_i hn
    split
    · rfl
    split
    · rfl
    rename_i hl
    rw [Bool.or_eq_true, Bool.or_eq_true] at h
    rcases h with h | h | h
    · exfalso
      have h : 4 ≤ ts.length := by simpa using h
      have a : (ts.length == 2) = false := by rw [beq_eq_false_iff_ne]; omega
      have b : (ts.length == 3) = false := by rw [beq_eq_false_iff_ne]; omega
      rw [a, b] at hn
      exact hn rfl
    · rw [if_pos h]
    · exfalso
      obtain ⟨e, he1, he2⟩ := List.any_eq_true.mp h
      simp only [Bool.or_eq_true, not_or, bne_iff_ne, ne_eq, Decidable.not_not] at hl
      have hlen := hl.1
      have : ∀ {α β : Type} (f : α → Option β) (l : List α) (x : α), x ∈ l → f x = none → (l.filterMap f).length < l.length := by
        intro α β f l x hx hf
        induction l with
        | nil => cases hx
        | cons y l ih =>
          have hle := List.length_filterMap_le f l
          rcases List.mem_cons.mp hx with rfl | hx
          · rw [List.filterMap_cons_none hf, List.length_cons]; omega
          · have := ih hx
            cases hy : f y with
            | none => rw [List.filterMap_cons_none hy, List.length_cons]; omega
            | some z => rw [List.filterMap_cons_some hy, List.length_cons, List.length_cons]; omega
      refine absurd hlen (Nat.ne_of_lt (this _ _ e he1 ?_))
      cases e <;> try rfl
      rename_i x p
      have hx : (env.kindOf x == some NameKind.local) = false := by
        unfold Env.kindOf
        rw [he, beq_eq_false_iff_ne]
        exact of_decide_eq_true he2
      simp [hx]
section
variable {X : Cx} {sc : Scope}
theorem blk_kind {env : Env} (h : env.scope = sc) (k : sc.kind = .function) : env.blockKind = .function := by
  unfold Env.blockKind
  rw [h, k]; rfl
/-- two names, two values, stored from the right -/
def swap2 (sc : Scope) (x y : Str) (px py : Pos) (vs : List Expr) : Bool :=
  decide (sc.names.lookup x = some .local) && (decide (sc.names.lookup y = some .local) && ((py.line == px.line) && (decide (x ≠ y) && (decide (vs.length = 2) && (!(vs.any isStar) && (!(vs.all (foldedForSure 8)) && !(vs.all (constantsAlone 8))))))))
def swap3 (sc : Scope) (x y z : Str) (px py pz : Pos) (vs : List Expr) : Bool :=
  decide (sc.names.lookup x = some .local) && (decide (sc.names.lookup y = some .local) && (decide (sc.names.lookup z = some .local) && ((py.line == px.line) && ((pz.line == px.line) && (decide (x ≠ y ∧ x ≠ z ∧ y ≠ z) && (decide (vs.length = 3) && (!(vs.any isStar) && (!(vs.all (foldedForSure 8)) && !(vs.all (constantsAlone 8))))))))))
theorem ss_two {env : Env} {x y : Str} {px py pt : Pos} {vs : List Expr} {kt k2 : Nat} {pt2 : Pos} (he : env.scope = sc) (k : sc.kind = .function) (h : swap2 sc x y px py vs = true) : swappedStores [.Tuple [.Name x px, .Name y py] kt pt] (.Tuple vs k2 pt2) env = pure (some [x, y]) := by
  unfold swap2 at h
  simp only [Bool.and_eq_true, decide_eq_true_eq, Bool.not_eq_true'] at h
  obtain ⟨h1, h2, h3, h4, h5, h6, h7, h8⟩ := h
  have hb := blk_kind he k
  unfold swappedStores
  have l1 : env.kindOf x = some .local := by unfold Env.kindOf; rw [he]; exact h1
  have l2 : env.kindOf y = some .local := by unfold Env.kindOf; rw [he]; exact h2
  have l3 : (Expr.Name x px).pos.line = px.line := rfl
  have e1 : ([x, y] : List Str).eraseDups.length = 2 := by
    have : (y == x) = false := by simpa using fun z => h4 z.symm
    simp [List.eraseDups_cons, this]
  simp only [h5, hb, h6, h7, h8, List.length_cons, List.length_nil, List.head?_cons, Option.map_some, Option.getD_some, l3, List.filterMap_cons, List.filterMap_nil, l1, l2, h3]
  simp [e1]
  intro e hm hs
  exfalso
  have := List.any_eq_false.mp h6 e hm
  cases e <;> first | exact this rfl | cases hs
theorem ss_three {env : Env} {x y z : Str} {px py pz pt : Pos} {vs : List Expr} {kt k2 : Nat} {pt2 : Pos} (he : env.scope = sc) (k : sc.kind = .function) (h : swap3 sc x y z px py pz vs = true) : swappedStores [.Tuple [.Name x px, .Name y py, .Name z pz] kt pt] (.Tuple vs k2 pt2) env = pure (some [x, y, z]) := by
  unfold swap3 at h
  simp only [Bool.and_eq_true, decide_eq_true_eq, Bool.not_eq_true'] at h
  obtain ⟨h1, h2, h3, h4, h4', h5, h6, h7, h8, h9⟩ := h
  have hb := blk_kind he k
  unfold swappedStores
  have l1 : env.kindOf x = some .local := by unfold Env.kindOf; rw [he]; exact h1
  have l2 : env.kindOf y = some .local := by unfold Env.kindOf; rw [he]; exact h2
  have l4 : env.kindOf z = some .local := by unfold Env.kindOf; rw [he]; exact h3
  have l3 : (Expr.Name x px).pos.line = px.line := rfl
  have e1 : ([x, y, z] : List Str).eraseDups.length = 3 := by
    have a : (y == x) = false := by simpa using fun w => h5.1 w.symm
    have b : (z == x) = false := by simpa using fun w => h5.2.1 w.symm
    have c : (z == y) = false := by simpa using fun w => h5.2.2 w.symm
    simp [List.eraseDups_cons, a, b, c]
  simp only [h6, hb, h7, h8, h9, List.length_cons, List.length_nil, List.head?_cons, Option.map_some, Option.getD_some, l3, List.filterMap_cons, List.filterMap_nil, l1, l2, l4, h4, h4']
  simp [e1]
  intro e hm hs
  exfalso
  have := List.any_eq_false.mp h7 e hm
  cases e <;> first | exact this rfl | cases hs
/-- name = [..] on one line -/
def swapC (sc : Scope) (x : Str) (ps cp : Pos) (scope : Scope) : Bool := decide (sc.names.lookup x = some .local) && ((ps.line == cp.line) && !(scope.names.any fun (n, k) => n == x && (k == .local || k == .cell)))
theorem sw_comp {env : Env} {x : Str} {ps cp : Pos} {scope : Scope} {elt : Expr} {gs : List Comprehension} {l : Nat} (he : env.scope = sc) (k : sc.kind = .function) (h : swapC sc x ps cp scope = true) : swapsWith (.ListComp elt gs scope cp) (some (.Name x ps)) l env = pure true := by
  unfold swapC at h
  simp only [Bool.and_eq_true, decide_eq_true_eq] at h
  obtain ⟨h1, h2, h3⟩ := h
  have hb := blk_kind he k
  have l1 : env.kindOf x = some .local := by unfold Env.kindOf; rw [he]; exact h1
  have l2 : (Expr.ListComp elt gs scope cp).pos.line = cp.line := rfl
  show pure (env.blockKind == .function && env.kindOf x == some .local && ps.line == (Expr.ListComp elt gs scope cp).pos.line && !(scope.names.any fun (n, k) => n == x && (k == .local || k == .cell))) = pure true
  rw [hb, l1, l2, h2, h3]; rfl
/-- o.m(..) at one line -/
theorem meth_ok {o : Expr} {m : Str} {apos pos : Pos} {es : List Expr} {env : Env} (hb : noCall o = true) (hs : (es.all fun e => !isStar e) = true) (hn : es.length < 30) (hl : (apos.endLine == pos.line) = true) :
    eval (.Call (.Attribute o m apos) es [] pos) env = (do
      let ov ← eval o env
      standAt apos.atName
      let (f, first) ← holding [ov] (getMethod ov m (do return (← importBound o env).getD true))
      callWith pos f first (backTo pos (starEach es env)) (backToKw pos (keywordEach [] env))) := by
  rw [arm_eval_Call, attr_ok hb]
  have hform : methodCallForm (es.length + ([] : List Keyword).length) (backTo pos (starEach es env)) (backToKw pos (keywordEach [] env)) = true := few_of hs hn
  have hpos : methodCallPos true o env apos pos = pure pos := by unfold methodCallPos; simp [hl]
  unfold methodCall
  rw [hform]
  congr 1
  funext ov
  congr 1
  funext _
  unfold calleeOf
  simp only [if_true]
  congr 1
  funext r
  obtain ⟨f, first⟩ := r
  show (do let callPos ← methodCallPos true o env apos pos; callWith callPos f first (backTo pos (starEach es env)) (backToKw pos (keywordEach [] env))) = _
  rw [hpos]
  rfl
theorem m1_ok {o e : Expr} {m : Str} {apos cp : Pos} (hb : noCall o = true) (h0 : isStar e = false) (hl : (apos.endLine == cp.line) = true) : M1 X o m apos e cp where
  base := attr_ok hb
  few := few_of (by simp [h0]) (by simp)
  line := hl
  trees := by rw [star_cons h0]; rfl
theorem m2_ok {o e f : Expr} {m : Str} {apos cp : Pos} (hb : noCall o = true) (h0 : isStar e = false) (h1 : isStar f = false) (hl : (apos.endLine == cp.line) = true) : M2 X o m apos e f cp where
  base := attr_ok hb
  few := few_of (by simp [h0, h1]) (by simp)
  line := hl
  trees := by rw [star_cons h0, star_cons h1]; rfl
end
end Z

set_option Elab.async false
set_option linter.all false
set_option maxRecDepth 100000
set_option maxHeartbeats 4000000
namespace Z
open PySem PySem.Spec PyProof.Rows L2
section
variable {p : Pg} {N : List Str} {sc : Scope} {fn : Str → Bool} {k : Nat} {X : Cx} {G : Fns} {ρ : Env'} {S : Store} {pos : Pos}
theorem reps_int {K : PySem.W.Frag} {F : Hp} {ι : List Addr} (f : Nat → Int) : ∀ l : List Nat, Reps K F ι (l.map fun i => V.int (f i)) (l.map fun i => D.int (f i))
  | [] => .nil
  | i :: l => .cons (.int _) (reps_int f l)
theorem fn_lrng {ea eb : Expr} {a b : Ex} {x y : Str} {ps ps2 pos2 : Pos} (g : Good p N sc fn k X) (hx : x = "list") (hy : y = "range") (gx : sc.names.lookup x = some .globalImplicit) (mx : p.mg x = none) (gy : sc.names.lookup y = some .globalImplicit) (my : p.mg y = none) (h0 : isStar ea = false) (h1 : isStar eb = false)
    (ha : FE p X ρ S ea (evE G a ρ S)) (hb : ∀ S, FE p X ρ S eb (evE G b ρ S)) : FN p X ρ S (.Call (.Name x ps) [.Call (.Name y ps2) [ea, eb] [] pos2] [] pos) (evE G (.lrng a b) ρ S) := by
  intro Pr F ι α σ H R d S' e Q q
  rw [evE] at e
  obtain ⟨⟨u, S1⟩, e1, e⟩ := Option.bind_eq_some_iff.mp e
  obtain ⟨⟨v, S2⟩, e2, e⟩ := Option.bind_eq_some_iff.mp e
  obtain ⟨i, e3, e⟩ := Option.bind_eq_some_iff.mp e
  obtain ⟨j, e4, e⟩ := Option.bind_eq_some_iff.mp e
  split at e
  · rename_i hz
    cases e
    simp only [Bool.and_eq_true, decide_eq_true_eq] at hz
    obtain ⟨z1, z2, z3⟩ := hz
    unfold smallI at z1 z2
    simp only [Bool.and_eq_true, decide_eq_true_eq] at z1 z2
    have GX : Gl X x := by show X.env.scope.names.lookup x = _; rw [g.sc]; exact gx
    have MX : X.mg x = none := by rw [← mx, ← g.pg]; rfl
    have GY : Gl X y := by show X.env.scope.names.lookup y = _; rw [g.sc]; exact gy
    have MY : X.mg y = none := by rw [← my, ← g.pg]; rfl
    subst hx hy
    cases intOf_eq e3
    cases intOf_eq e4
    have hpl : ([eb].all fun e => !isStar e) = true := by simp [h1]
    refine wE_of (pe_listRg g.calm GX MX (prg_2 GY MY peW peW (star_cons h0) (star_cons h1) (star_all hpl).1) (star_cons rfl)) ?_
    refine ha Pr F ι α σ H R _ _ e1 _ fun x F1 ι1 H1 R1 l1 m1 r1 => ?_
    refine hb S1 Pr F1 ι1 α σ H1 R1 _ _ e2 _ fun y F2 ι2 H2 R2 l2 m2 r2 => ?_
    cases r1
    cases r2
    refine ⟨i, j, rfl, rfl, ⟨z1.1, z1.2, z2.1, z2.2, by omega⟩, fun c hc => ?_⟩
    obtain ⟨R3, f3⟩ := R2.alloc (d := .lst (rngD i (j - i).toNat)) (o := .lst (rgV i j)) hc fun G g => ⟨_, g, reps_int (fun (k : Nat) => i + (k : Int)) _⟩
    exact q c F2 ι2 _ R3 (l1.trans l2) (m1.trans m2) f3
  · cases e
def cV : Cst → V
  | .non => .non | .bl b => .bl b | .int i => .int i | .str x => .str x
def cstB' (c : Cst) (k : Const) : Bool := match c, k with
  | .non, .none => true | .bl b, .bool b' => decide (b = b') | .int i, .int i' => decide (i = i') | .str x, .str y => decide (x = y)
  | _, _ => false
def ccsB : List (Cst × Cst) → List (Option Expr) → List Expr → Bool
  | [], [], [] => true
  | (a, b) :: r, some (.Constant ka _ _) :: ks, .Constant kb _ _ :: vs => cstB' a ka && (cstB' b kb && ccsB r ks vs)
  | _, _, _ => false
theorem pc_ok {c : Cst} {kc : Const} {j : Nat} (h : cstB' c kc = true) : ∃ t, PE X (.Constant kc j pos) t ∧ ∀ σ H (Q : VK), Q (cV c) H → t σ H Q := by
  cases c <;> cases kc <;> simp [cstB'] at h
  · exact ⟨_, pe_non, fun σ H Q q => q⟩
  · subst h; exact ⟨_, pe_bl, fun σ H Q q => q⟩
  · subst h; exact ⟨_, pe_int, fun σ H Q q => q⟩
  · subst h; exact ⟨_, pe_str, fun σ H Q q => q⟩
theorem pps_ok : ∀ {kvs : List (Cst × Cst)} {ks : List (Option Expr)} {vs : List Expr}, ccsB kvs ks vs = true → ks.length = kvs.length ∧ vs.length = kvs.length ∧ ks.all (·.isSome) = true ∧ ∃ trs, PPs X pos ks vs trs ∧ ∀ σ H (Q : List (V × V) → Hp → Prop), Q (kvs.map fun q => (cV q.1, cV q.2)) H → tPairs trs σ H Q
  | [], [], [], _ => ⟨rfl, rfl, rfl, [], pps_nil, fun _ _ _ q => q⟩
  | (a, b) :: r, some (.Constant ka ja pa) :: ks, .Constant kb jb pb :: vs, h => by
    simp only [ccsB, Bool.and_eq_true] at h
    obtain ⟨t1, p1, q1⟩ := pc_ok (X := X) (j := ja) (pos := pa) h.1
    obtain ⟨t2, p2, q2⟩ := pc_ok (X := X) (j := jb) (pos := pb) h.2.1
    obtain ⟨l1, l2, l3, trs, p3, q3⟩ := pps_ok h.2.2
    refine ⟨by simp [l1], by simp [l2], by simpa using l3, (t1, t2) :: trs, pps_cons p1 p2 p3, fun σ H Q q => ?_⟩
    exact q1 _ _ _ (q2 _ _ _ (q3 _ _ _ q))
theorem dsp_ok {K : PySem.W.Frag} {F : Hp} {ι : List Addr} : ∀ {kvs : List (Cst × Cst)} {es : List (Key × D)}, dsp (kvs.map fun q => q.1.d) (kvs.map fun q => q.2.d) = some es → ∃ m : List (Key × V), (kvs.map fun q => (cV q.1, cV q.2)) = m.map (fun kv => (kV kv.1, kv.2)) ∧ RKV K F ι m es
  | [], es, h => by cases h; exact ⟨[], rfl, rfl, .nil⟩
  | (a, b) :: r, es, h => by
    simp only [List.map_cons, dsp] at h
    split at h
    · rename_i k es' h1 h2
      cases h
      obtain ⟨m, e1, e2⟩ := dsp_ok (K := K) (F := F) (ι := ι) h2
      refine ⟨(k, cV b) :: m, ?_, ?_⟩
      · rw [List.map_cons, List.map_cons, e1]
        congr 2
        cases a <;> simp [Cst.d, keyK] at h1 <;> (subst h1; rfl)
      · refine ⟨by rw [List.map_cons, List.map_cons, e2.1], .cons ?_ e2.2⟩
        cases b
        · exact .non
        · exact .bl _
        · exact .int _
        · exact .str _
    · cases h
theorem rkv_fold {K : PySem.W.Frag} {F : Hp} {ι : List Addr} : ∀ {m : List (Key × V)} {es : List (Key × D)} {m0 : List (Key × V)} {es0 : List (Key × D)}, RKV K F ι m es → RKV K F ι m0 es0 → RKV K F ι (mergeK m0 m) (es.foldl (fun acc e => dput acc e.1 e.2) es0)
  | [], [], _, _, _, h => h
  | [], _ :: _, _, _, h, _ => by have := h.len; simp at this
  | _ :: _, [], _, _, h, _ => by have := h.len; simp at this
  | (k, v) :: m, (k', d) :: es, m0, es0, h, h0 => by
    obtain ⟨h1, h2⟩ := h
    simp only [List.map_cons, List.cons.injEq] at h1
    obtain ⟨rfl, h1⟩ := h1
    simp only [List.map_cons] at h2
    cases h2 with
    | cons hv hr => exact rkv_fold (m := m) (es := es) ⟨h1, hr⟩ (RKV.put k hv h0)
theorem upd_upd {H : Hp} {a : Addr} {o o' : HO} : upd (upd H a o) a o' = upd H a o' := by
  funext x
  by_cases h : x = a
  · subst h; rw [upd_same, upd_same]
  · rw [upd_ne h, upd_ne h, upd_ne h]
theorem fn_dcst {kvs : List (Cst × Cst)} {ks : List (Option Expr)} {vs : List Expr} (h : ccsB kvs ks vs = true) : FN p X ρ S (.Dict ks vs pos) (evE G (.dcst kvs) ρ S) := by
  intro Pr F ι α σ H R d S' e Q q
  rw [evE] at e
  obtain ⟨es, e1, e⟩ := Option.bind_eq_some_iff.mp e
  split at e
  · rename_i hz
    cases e
    obtain ⟨l1, l2, l3, trs, p3, q3⟩ := pps_ok (X := X) (pos := pos) h
    obtain ⟨m, em, rm⟩ := dsp_ok (K := p.K) (F := F) (ι := ι) e1
    have hml : m.length = kvs.length := by have := congrArg List.length em; simpa using this.symm
    have hes : es.length = m.length := rm.len.symm
    have hne : ks ≠ [] := by
      intro z
      rw [z] at l1
      have : es.length = 0 := by rw [hes, hml, ← l1]; rfl
      exact hz.2 (List.length_eq_zero_iff.mp this)
    refine wE_of (pe_disp p3 l3 (by omega) hne (by omega)) fun c hc => q3 _ _ _ ⟨upd_same, m, em, by omega, ?_⟩
    rw [upd_upd]
    have hc2 : (H c) = none := hc
    obtain ⟨R2, f2⟩ := R.alloc (d := .dK (es.foldl (fun acc e => dput acc e.1 e.2) [])) (o := .dK (mergeK [] m)) hc2 fun G g => ⟨_, g, (rkv_fold rm ⟨rfl, .nil⟩).1, (rkv_fold rm ⟨rfl, .nil⟩).2⟩
    exact q c F ι _ R2 (LeH.refl _) (LeA.refl _) f2
  · cases e
end
end Z

set_option Elab.async false
set_option linter.all false
set_option maxRecDepth 100000
set_option maxHeartbeats 4000000
namespace Z
open PySem PySem.Spec PyProof.Rows L2
section
variable {prog : Program} {w : World} {K : Type} [DecidableEq K] {knd : KeyKind prog w K} {A : Around} {E : Value → Shared → Prop} {s : Shared}
theorem put_pairs {d : Addr} {kvs : List (K × Value)} {k : K} {key v : Value} {Q : Unit → Shared → Prop} (hkey : knd.is k key = true) (hm : s.heap.DictOf knd d kvs)
    (hQ : ∀ h', h'.DictOf knd d (stored kvs k v) → Heap.SameBut d s.heap h' → Q () { s with heap := h' })
    (hsz : kvs.length ≤ sizeLine) :
    wpAny (model prog w) A (dictPut d (knd.hash k) key v) Q E s := by
  obtain ⟨o, es, ep, ho, hc, hd, hk, hp, hn⟩ := hm
  have hes : es.size ≤ sizeLine := by have e1 := hp.length; have e2 : es.toList.length = es.size := by simp
                                      omega
  unfold dictPut
  refine wpAny_bind (wpAny_dictFind_of hkey ho hd hk ?_)
  have hidx : (es.findIdx? fun e => knd.is k e.key) = kvs.findIdx? fun kv => decide (kv.1 = k) := by
    rw [← hp.findIdx k]; obtain ⟨l⟩ := es; simp
  cases hi : es.findIdx? fun e => knd.is k e.key with
  | some i =>
    refine wpAny_updateDict ho hd (hQ _ ⟨_, _, ep, Heap.get?_update_self _ ho (Obj.isFreed_of_dict (Obj.data_mapDict hd _)),
      hc.mapDict _, Obj.data_mapDict hd _, hk.modify _ _, ?_, ?_⟩ (Heap.SameBut.update ..))
    · rw [stored, if_pos (any_of_findIdx_some (hidx ▸ hi))]
      have hl : (es.toList.findIdx? fun e => knd.is k e.key) = some i := by rw [← hi]; obtain ⟨l⟩ := es; simp
      have := hp.modify hn hl v
      obtain ⟨l⟩ := es
      simpa using this
    · rw [stored, if_pos (any_of_findIdx_some (hidx ▸ hi)), keys_map_store]; exact hn
  | none =>
    have hnot : k ∉ kvs.map (·.1) := not_mem_of_findIdx_none (hidx ▸ hi)
    have hany : ¬ (kvs.any fun kv => decide (kv.1 = k)) = true := by
      rw [List.any_eq_true]; rintro ⟨kv, hkv, he⟩
      exact hnot (List.mem_map.mpr ⟨kv, hkv, of_decide_eq_true he⟩)
    refine wpAny_updateDictKeys (hz := hes) ho hd (hQ _ ⟨_, _, ep + 1, Heap.get?_update_self _ ho (Obj.isFreed_of_dict (Obj.data_mapDictKeys hd _)),
      hc.mapDictKeys _, Obj.data_mapDictKeys hd _, hk.push hkey _, ?_, ?_⟩ (Heap.SameBut.update ..))
    · rw [stored, if_neg hany]
      have := hp.append hkey (knd.hash k) v
      obtain ⟨l⟩ := es
      simpa using this
    · rw [stored, if_neg hany, List.map_append, List.nodup_append]
      refine ⟨hn, by simp, ?_⟩
      intro a ha b hb
      simp only [List.map_cons, List.map_nil, List.mem_singleton] at hb
      subst hb
      exact fun e => hnot (e ▸ ha)
theorem merge_map {d o : Addr} {kvs more : List (K × Value)} {Q : Unit → Shared → Prop} (hdo : d ≠ o) (hoS : (o == sysModules) = false)
    (hd : s.heap.DictOf knd d kvs) (ho : s.heap.DictOf knd o more) (href : ∀ k (x : Value), knd.is k x = true → ∀ a, x ≠ .ref a)
    (hQ : ∀ h', h'.DictOf knd d (merged kvs more) → h'.DictOf knd o more → Heap.SameBut d s.heap h' → Q () { s with heap := h' })
    (hsz : kvs.length + more.length ≤ sizeLine) :
    wpAny (model prog w) A (mergeMapping d (.ref o) false) Q E s := by
  obtain ⟨od, esd, epd, hod, hcd, hdd, hkd, hpd, hnd⟩ := id hd
  obtain ⟨oo, eso, epo, hoo, hco, hdo', hko, hpo, hno⟩ := id ho
  unfold mergeMapping
  have hlen : more.length = eso.size := by rw [← hpo.length]; simp
  have loop : wpAny (model prog w) A (do
      let l ← dictEntries o
      let epoch ← dictEpoch o
      forIn (List.range l.size) PUnit.unit fun i (_ : PUnit) => (do
          let l' ← dictEntries o
          match l'[i]? with
            | some e => do
              holding [e.key, e.val] (dictPut d e.hash e.key e.val)
              let ep' ← dictEpoch o
              if (ep' != epoch) = true then do
                  (unsupported "dict.changed-during-merge" : Sem PUnit)
                  pure (ForInStep.yield PUnit.unit)
                else pure (ForInStep.yield PUnit.unit)
            | _ => do
              (unsupported "dict.changed-during-merge" : Sem PUnit)
              pure (ForInStep.yield PUnit.unit) : Sem (ForInStep PUnit))
      pure ()) Q E s := by
    refine wpAny_bind (wpAny_dictEntries hoo hdo' ?_)
    refine wpAny_bind (wpAny_dictEpoch hoo hdo' ?_)
    refine wpAny_bind ?_
    rw [List.range_eq_range']
    refine wpAny_forIn_list _
      (fun rest _ s' => ∃ h' i, s' = { s with heap := h' } ∧ rest = List.range' i (eso.size - i) ∧ i ≤ eso.size ∧ h'.DictOf knd d (merged kvs (more.take i)) ∧ h'.get? o = some oo ∧ Heap.SameBut d s.heap h')
      _ ?_ ?_ _ _ ⟨s.heap, 0, rfl, by simp, Nat.zero_le _, by simpa [merged] using hd, hoo, Heap.SameBut.refl _ _⟩
    · rintro x rest b s' ⟨h', i, rfl, hr, hi, hd', hoo', hs'⟩
      have hlt : i < eso.size := by
        rcases Nat.lt_or_ge i eso.size with h | h
        · exact h
        · rw [Nat.sub_eq_zero_of_le h] at hr; simp at hr
      obtain ⟨rfl, hrest⟩ : x = i ∧ rest = List.range' (i + 1) (eso.size - (i + 1)) := by
        have e : eso.size - i = (eso.size - (i + 1)) + 1 := by omega
        rw [e, List.range'_succ] at hr
        injection hr with h1 h2
        exact ⟨h1, h2⟩
      refine wpAny_bind (wpAny_dictEntries hoo' hdo' ?_)
      rw [Array.getElem?_eq_getElem hlt]
      obtain ⟨kv, hkv⟩ : ∃ kv, more[x]? = some kv := ⟨more[x]'(by rw [hlen]; exact hlt), List.getElem?_eq_getElem _⟩
      obtain ⟨k, v⟩ := kv
      obtain ⟨hkey, hval⟩ := hpo.get? (e := eso[x]) (by simp [hlt]) hkv
      obtain ⟨k', hkey', hhash⟩ := hko eso[x] (Array.getElem_mem hlt)
      obtain rfl : k' = k := knd.inj _ _ _ hkey' hkey
      show wpAny _ _ (holding [eso[x].key, eso[x].val] (dictPut d eso[x].hash eso[x].key eso[x].val) >>= _) _ _ _
      rw [hhash, hval]
      have hmx : (merged kvs (more.take x)).length ≤ sizeLine := by
        have e1 := merged_length_le kvs (more.take x)
        have e2 : (more.take x).length ≤ more.length := by rw [List.length_take]; omega
        omega
      refine wpAny_bind (wpAny_holding (put_pairs (hsz := hmx) hkey hd' fun h'' hd'' hs'' => ?_))
      have hoo'' : h''.get? o = some oo := (hs''.2 o (Ne.symm hdo)).trans hoo'
      refine wpAny_bind (wpAny_dictEpoch hoo'' hdo' ?_)
      rw [if_neg (by simp)]
      exact wpAny_pure ⟨h'', x + 1, rfl, hrest, hlt, by rw [merged_take_succ kvs more x (k', v) hkv]; exact hd'', hoo'', hs'.trans hs''⟩
    · rintro b s' ⟨h', i, rfl, hr, hi, hd', hoo', hs'⟩
      have hin : i = eso.size := by
        rcases Nat.lt_or_ge i eso.size with h | h
        · have e : eso.size - i = (eso.size - (i + 1)) + 1 := by omega
          rw [e, List.range'_succ] at hr; exact nomatch hr
        · exact Nat.le_antisymm hi h
      refine wpAny_pure (hQ h' ?_ ⟨oo, eso, epo, hoo', hco, hdo', hko, hpo, hno⟩ hs')
      rw [hin, ← hlen, List.take_length] at hd'; exact hd'
  refine wpAny_bind (wpAny_isInstance ho.typeIs isSubtype_dict_dict ?_)
  simp only [if_true]
  refine wpAny_bind (wpAny_specialOf ho.typeIs F.slot_dict_iter.lookup ?_)
  simp only [beq_self_eq_true]
  refine wpAny_bind (wpAny_pure ?_)
  dsimp only
  rw [if_neg (by rw [hoS]; exact Bool.false_ne_true)]
  refine wpAny_bind (wpAny_dictEntries hod hdd ?_)
  split
  · refine wpAny_bind (wpAny_dictEntries hoo hdo' ?_)
    refine wpAny_bind ?_
    rw [← Array.forIn_toList]
    refine wpAny_forIn_list _ (fun rest _ s' => s' = s ∧ ∀ e ∈ rest, e ∈ eso) _ ?_ ?_ _ _ ⟨rfl, fun e he => by simpa using he⟩
    · rintro x rest b s' ⟨rfl, hr⟩
      obtain ⟨k', hkey', _⟩ := hko x (hr x List.mem_cons_self)
      have nr := href _ _ hkey'
      split
      · rename_i a ha; exact absurd ha (nr a)
      · exact wpAny_pure ⟨rfl, fun e he => hr e (List.mem_cons_of_mem _ he)⟩
    · rintro b s' ⟨rfl, _⟩
      exact loop
  · exact loop
end
/-! ## {**a, **b} -/
section
variable {M : Model} {A : Around} {E : Value → Shared → Prop} {s : Shared}
theorem calmly {α : Type} {m : Sem α} {Q : α → Shared → Prop} {k1 k3 : Value → Sem Unit} {k2 : Value → Sem α} (h : wpAny M A m Q (fun _ _ => False) s) : wpAny M A (((m.onRaise k1).tryCatch k2).onRaise k3) Q E s :=
  wpAny_onRaise (wpAny_tryCatch (wpAny_onRaise (wpAny_mono h (fun _ _ x => x) fun _ _ x => x.elim)))
theorem disp2 {ma mb : Sem Value} {Q : Value → Shared → Prop} (h : wpAny M A ma (fun m s1 => wpAny M A (mergeMapping s.heap.objs.size m false) (fun _ s2 => wpAny M A mb (fun m' s3 => wpAny M A (mergeMapping s.heap.objs.size m' false) (fun _ s4 => Q (.ref s.heap.objs.size) s4) (fun _ _ => False) s3) E s2) (fun _ _ => False) s1) E { s with heap := s.heap.push { cls := .type "dict", data := .dict #[] } }) :
    wpAny M A (dictDisplay [(none, ma), (none, mb)]) Q E s := by
  unfold dictDisplay
  simp only [List.forIn_cons, List.forIn_nil, List.isEmpty_nil, if_true, pure_bind, bind_assoc]
  refine wpAny_bind (wpAny_alloc ?_)
  refine wpAny_bind (wpAny_holding (wpAny_mono h (fun m s1 h1 => ?_) fun _ _ x => x))
  refine wpAny_bind (calmly (wpAny_holding (wpAny_mono h1 (fun _ s2 h2 => ?_) fun _ _ x => x)))
  refine wpAny_bind (wpAny_holding (wpAny_mono h2 (fun m' s3 h3 => ?_) fun _ _ x => x))
  refine wpAny_bind (calmly (wpAny_holding (wpAny_mono h3 (fun _ s4 h4 => ?_) fun _ _ x => x)))
  exact wpAny_pure h4
end
section
variable {p : Pg} {N : List Str} {sc : Scope} {fn : Str → Bool} {k : Nat} {X : Cx} {G : Fns} {ρ : Env'} {S : Store} {ea eb : Expr} {pos : Pos} {a b : Ex}
theorem kV_noref {P : Program} {w : World} (k : Key) (x : Value) (h : (mixKind P w).is k x = true) (a : Addr) : x ≠ .ref a := fun e => by
  subst e
  rcases keyIs_shape (show keyIs k (.ref a) = true from h) with ⟨i, t, e1, e2⟩ | ⟨i, t, e1, e2⟩ <;> cases e2
theorem mm_dict {pins : List (Addr × Obj)} {σ : L2.St} {H : Hp} {s : Shared} {d o : Addr} {acc kvs : List (Key × V)} {Q : Unit → Shared → Prop} {E : Value → Shared → Prop} (I : Inv X pins σ H s) (hD : H d = some (.dK acc)) (hO : Rd H o (.dK kvs)) (hdo : d ≠ o) (hl : acc.length + kvs.length ≤ sizeLine)
    (h : ∀ s', Inv X pins σ (upd H d (.dK (mergeK acc kvs))) s' → Q () s') : wpAny (model X.prog X.w) X.A (mergeMapping d (.ref o) false) Q E s := by
  obtain ⟨z1, n1, vs, r1, d1⟩ := dk_of I.hok hD
  obtain ⟨z2, n2, ws, r2, d2⟩ := dk_rd I.hok hO
  refine merge_map hdo n2 d1 d2 (fun k x hk => kV_noref k x hk) (fun h' m1 m2 hs => h _ ?_) (by rw [← r1.length, ← r2.length]; exact hl)
  have he : ∃ q, h'.get? d = some q := let ⟨q, _, _, hq, _⟩ := m1; ⟨q, hq⟩
  have hlen := length_mergeK kvs acc
  exact d_write (t' := s.toks) I (by rw [hD]; exact True.intro) hs he (dk_new (by omega) n1 (KV.merge r2 r1) m1)
theorem rkv_merge {K : PySem.W.Frag} {F : Hp} {ι : List Addr} : ∀ {more : List (Key × V)} {fs : List (Key × D)} {acc : List (Key × V)} {es : List (Key × D)}, RKV K F ι more fs → RKV K F ι acc es → RKV K F ι (mergeK acc more) (fs.foldl (fun acc e => dput acc e.1 e.2) es) := by
  intro more
  induction more with
  | nil =>
    intro fs acc es r q
    rcases r.elim with ⟨_, rfl⟩ | ⟨_, _, _, _, _, h, _⟩
    · exact q
    · cases h
  | cons kv more ih =>
    intro fs acc es r q
    rcases r.elim with ⟨h, _⟩ | ⟨k', v, d, kvs', es', h, rfl, a, b⟩
    · cases h
    · cases h
      simp only [List.foldl_cons]
      exact ih (acc := putK acc k' v) (es := dput es k' d) b (RKV.put k' a q)
theorem mrg_at {v : Value} (hp : X.pg p.cls p.con = p) {F H : Hp} {ι : List Addr} {σ : L2.St} {pins : List (Addr × Obj)} {s : Shared} {x : V} {fs : List (Key × D)} (cv : CV p F ι H x (.dK fs)) (rx : RelV x v) : ∃ o kvs, x = .ref o ∧ v = .ref o ∧ Rd H o (.dK kvs) ∧ RKV p.K F ι kvs fs := by
  obtain ⟨o, kvs, rfl, q1, q2, q3⟩ := cv
  exact ⟨o, kvs, rfl, rx, q1, q2, q3⟩
theorem mrgD_eq {u v d : D} (e : mrgD u v = some d) : ∃ es fs, u = .dK es ∧ v = .dK fs ∧ es.length + fs.length ≤ sizeLine ∧ d = .dK (fs.foldl (fun acc e => dput acc e.1 e.2) (es.foldl (fun acc e => dput acc e.1 e.2) [])) := by
  cases u <;> try cases e
  cases v <;> try cases e
  rename_i es fs
  have e : (if es.length + fs.length ≤ sizeLine then some (D.dK (fs.foldl (fun acc e => dput acc e.1 e.2) (es.foldl (fun acc e => dput acc e.1 e.2) []))) else none) = some d := e
  split at e
  · rename_i hz
    cases e
    exact ⟨es, fs, rfl, rfl, hz, rfl⟩
  · cases e
theorem apart {F : Hp} {ι : List Addr} {α : Nat → Addr} {D0 o : Addr} {w : Hd} {es : List (Key × D)} (r : HRep p F ι α (.ref o) w) (c : cont ρ S w = some (.dK es)) (h2 : F D0 = none) (h3 : D0 ∉ ι) (h4 : ∀ j e, ρ[j]? = some (.own e) → α j ≠ D0) : D0 ≠ o := fun z => by
  subst z
  cases w with
  | slot i =>
    simp only [cont] at c
    split at c
    · rename_i u hu
      have r : (V.ref D0) = .ref (α i) := r
      injection r with r
      exact h4 _ _ hu r.symm
    · cases c
  | val d =>
    have r : Rep p.K F ι (.ref D0) d := r
    cases r with
    | lst a _ => rw [h2] at a; cases a
    | tup a _ => rw [h2] at a; cases a
    | dK a _ _ => rw [h2] at a; cases a
    | dT a _ _ => rw [h2] at a; cases a
    | ref hn => exact h3 (List.mem_of_getElem? hn)
    | ctup a _ => rcases a with a | ⟨_, a⟩ <;> (rw [h2] at a; cases a)
theorem fn_dmrg (g : Good p N sc fn k X) (ha : ∀ S, FH p X ρ S ea (hOf a ρ S (evE G a ρ S))) (hb : ∀ S, FH p X ρ S eb (hOf b ρ S (evE G b ρ S))) :
    FN p X ρ S (.Dict [none, none] [ea, eb] pos) (evE G (.dmrg a b) ρ S) := by
  intro Pr F ι α σ H R d S' e Q q pins s I
  rw [evE] at e
  obtain ⟨⟨w, S1⟩, e1, e⟩ := Option.bind_eq_some_iff.mp e
  obtain ⟨u, e2, e⟩ := Option.bind_eq_some_iff.mp e
  obtain ⟨⟨w2, S2⟩, e3, e⟩ := Option.bind_eq_some_iff.mp e
  obtain ⟨v, e4, e⟩ := Option.bind_eq_some_iff.mp e
  obtain ⟨d', e5, e6⟩ := Option.map_eq_some_iff.mp e
  obtain ⟨es, fs, rfl, rfl, hz, rfl⟩ := mrgD_eq e5
  cases e6
  rw [arm_eval_Dict]
  refine wpAny_bind (wpAny_standAt ?_)
  generalize hd : s.heap.objs.size = D0
  have I1 : Inv X pins σ (upd H D0 (.dK [])) { s with heap := s.heap.push { cls := .type "dict", data := .dict #[] } } := by
    subst hd
    exact I.laid (a := s.heap.objs.size) (o := .dK []) (t' := s.toks) (fun _ _ q => Heap.get?_push_of_some _ q) (Nat.le_refl _) (dk_empty s.heap I.big)
  have hD : H D0 = none := by subst hd; exact I.hok.fresh (Nat.le_refl _)
  obtain ⟨Ra, fa⟩ := R.alloc (d := .dK []) (o := .dK []) hD fun G g => ⟨[], g, rfl, .nil⟩
  have Rb := Ra.guard (a := D0) (o := .dK []) upd_same (.inl fa.nf) (fun n c h _ => absurd (List.mem_of_getElem? h) fa.ni) fa.no
  have wa := ha S _ F ι α σ _ Rb w S1 e1 (fun x H' => ∃ F' ι', Rel p (upd Pr D0 (.dK [])) ρ S1 F' ι' α σ H' ∧ LeH F F' ∧ LeA ι ι' ∧ HRep p F' ι' α x w) fun x F' ι' H' R' l m r => ⟨F', ι', R', l, m, r⟩
  show wpAny _ _ (dictDisplay [(none, _), (none, _)]) _ _ _
  refine disp2 ?_
  rw [hd]
  refine wpAny_bind (thn (wa pins _ I1) fun m s1 hx => ?_)
  obtain ⟨x, H1, I2, rx, F1, ι1, R1, l1, m1, r1⟩ := hx
  refine wpAny_bind (wpAny_standAt (wpAny_pure ?_))
  obtain ⟨o, kvs, rfl, rfl, q1, q2⟩ := mrg_at (p := p) (s := s) (σ := σ) (pins := pins) g.pg (cv_of R1 r1 e2) rx
  obtain ⟨a1, a2, a3, a4⟩ := R1.aloneK
  have no : D0 ≠ o := apart r1 e2 a2 a3 a4
  have hl1 := q2.len
  refine mm_dict I2 a1 q1 no (by simp only [List.length_nil]; omega) fun s2 I3 => ?_
  have R2 := R1.reguardK (ws := mergeK [] kvs)
  have wb := hb S1 _ F1 ι1 α σ _ R2 w2 S2 e3 (fun x H' => ∃ F' ι', Rel p (upd Pr D0 (.dK (mergeK [] kvs))) ρ S2 F' ι' α σ H' ∧ LeH F1 F' ∧ LeA ι1 ι' ∧ HRep p F' ι' α x w2) fun x F' ι' H' R' l m r => ⟨F', ι', R', l, m, r⟩
  refine wpAny_bind (thn (wb pins s2 I3) fun m s3 hx => ?_)
  obtain ⟨y, H3, I4, ry, F3, ι3, R3, l3, m3, r3⟩ := hx
  refine wpAny_bind (wpAny_standAt (wpAny_pure ?_))
  obtain ⟨o2, kvs2, rfl, rfl, t1, t2⟩ := mrg_at (p := p) (s := s) (σ := σ) (pins := pins) g.pg (cv_of R3 r3 e4) ry
  obtain ⟨b1, b2, b3, b4⟩ := R3.aloneK
  have no2 : D0 ≠ o2 := apart r3 e4 b2 b3 b4
  have hl2 := t2.len
  have hl3 := length_mergeK kvs []
  simp only [List.length_nil] at hl3
  refine mm_dict I4 b1 t1 no2 (by omega) fun s4 I5 => ?_
  have R4 := R3.reguardK (ws := mergeK (mergeK [] kvs) kvs2)
  have prD : Pr D0 = none := fa.np
  obtain ⟨c1, c2, c3, c4⟩ := R4.aloneK
  have R5 := R4.weak (Pr := Pr) fun b o z => by
    rw [upd_ne fun y => by rw [y, prD] at z; cases z]; exact z
  have rk : RKV p.K F3 ι3 (mergeK (mergeK [] kvs) kvs2) (fs.foldl (fun acc e => dput acc e.1 e.2) (es.foldl (fun acc e => dput acc e.1 e.2) [])) := rkv_merge t2 (rkv_merge (q2.le l3 m3) .nil)
  exact ⟨.ref D0, _, I5, rfl, q D0 F3 ι3 _ R5 (l1.trans l3) (m1.trans m3) ⟨⟨_, c1, rk.1, rk.2⟩, c2, c3, prD, c4⟩⟩
end
end Z

set_option Elab.async false
set_option linter.all false
set_option maxRecDepth 100000
set_option maxHeartbeats 4000000
namespace Z
open PySem PySem.Spec PyProof.Rows L2
/-! # sorted(d.items()): pairs whose firsts differ -/
section
variable {prog : Program} {w : World} {A : Around} {E : Value → Shared → Prop} {s : Shared}
/-- pairs at addresses, their firsts' data -/
structure Firsts (h : Heap) (as : List Addr) (ks : List PyData) : Prop where
  len : as.length = ks.length
  at_ : ∀ (j : Nat) (a : Addr) (k : PyData), as[j]? = some a → ks[j]? = some k → ∃ kv vv bs, h.get? a = some { cls := .type "tuple", data := .seq #[kv, vv] } ∧ Reads h kv k bs
noncomputable def pairKind (as : List Addr) (ks : List PyData) : PyProof.Rows.KeyKind where
  toKeyOrd := listOrd PyProof.Rows.itemOrd
  keyOf v := open Classical in if q : ∃ (j : Nat) (a : Addr) (k : PyData), as[j]? = some a ∧ v = .ref a ∧ ks[j]? = some k then some (PySem.W.keyToks q.choose_spec.choose_spec.choose) else none
  dflt := ([] : List (Int ⊕ List Nat))
theorem pairKind_at {as : List Addr} {ks : List PyData} (nd : as.Nodup) {j : Nat} {a : Addr} {k : PyData} (h1 : as[j]? = some a) (h2 : ks[j]? = some k) : (pairKind as ks).keyOf (.ref a) = some (PySem.W.keyToks k) := by
  have q : ∃ (j : Nat) (a' : Addr) (k : PyData), as[j]? = some a' ∧ Value.ref a = .ref a' ∧ ks[j]? = some k := ⟨j, a, k, h1, rfl, h2⟩
  have e : (pairKind as ks).keyOf (.ref a) = some (PySem.W.keyToks q.choose_spec.choose_spec.choose) := by
    show (open Classical in if q : ∃ (j : Nat) (a' : Addr) (k : PyData), as[j]? = some a' ∧ Value.ref a = .ref a' ∧ ks[j]? = some k then some (PySem.W.keyToks q.choose_spec.choose_spec.choose) else none) = _
    rw [dif_pos q]
  obtain ⟨t1, t2, t3⟩ := q.choose_spec.choose_spec.choose_spec
  have e2 : q.choose_spec.choose = a := by injection t2 with t2; exact t2.symm
  rw [e2] at t1
  obtain ⟨l1, g1⟩ := List.getElem?_eq_some_iff.mp t1
  obtain ⟨l2, g2⟩ := List.getElem?_eq_some_iff.mp h1
  have e3 : q.choose = j := (List.getElem_inj nd).mp (g1.trans g2.symm)
  have t4 : ks[q.choose]? = some k := by rw [e3]; exact h2
  rw [e, Option.some.inj (t3.symm.trans t4)]
theorem pairKind_inv {as : List Addr} {ks : List PyData} {v : Value} {x : List (Int ⊕ List Nat)} (e : (pairKind as ks).keyOf v = some x) : ∃ (j : Nat) (a : Addr) (k : PyData), as[j]? = some a ∧ v = .ref a ∧ ks[j]? = some k ∧ x = PySem.W.keyToks k := by
  by_cases q : ∃ (j : Nat) (a : Addr) (k : PyData), as[j]? = some a ∧ v = .ref a ∧ ks[j]? = some k
  · have e' : (pairKind as ks).keyOf v = some (PySem.W.keyToks q.choose_spec.choose_spec.choose) := by
      show (open Classical in if q : ∃ (j : Nat) (a' : Addr) (k : PyData), as[j]? = some a' ∧ v = .ref a' ∧ ks[j]? = some k then some (PySem.W.keyToks q.choose_spec.choose_spec.choose) else none) = _
      rw [dif_pos q]
    obtain ⟨t1, t2, t3⟩ := q.choose_spec.choose_spec.choose_spec
    rw [e'] at e
    exact ⟨_, _, _, t1, t2, t3, (Option.some.inj e).symm⟩
  · have e' : (pairKind as ks).keyOf v = none := by
      show (open Classical in if q : ∃ (j : Nat) (a' : Addr) (k : PyData), as[j]? = some a' ∧ v = .ref a' ∧ ks[j]? = some k then some (PySem.W.keyToks q.choose_spec.choose_spec.choose) else none) = _
      rw [dif_neg q]; rfl
    rw [e'] at e
    cases e
theorem firsts_tups {h : Heap} : ∀ {as : List Addr} {ks : List PyData}, Firsts h as ks → ∃ fs, PySem.W.KatTups h (as.map .ref) fs ∧ fs.length = as.length ∧ ∀ f ∈ fs, ∃ k ∈ ks, ∃ bs, Reads h f k bs
  | [], _, _ => ⟨[], .nil, rfl, fun f hf => by simp at hf⟩
  | a :: as, [], F => by cases F.len
  | a :: as, k :: ks, F => by
    obtain ⟨kv, vv, bs, h1, h2⟩ := F.at_ 0 a k rfl rfl
    obtain ⟨fs, t1, t2, t3⟩ := firsts_tups (h := h) (as := as) (ks := ks) ⟨Nat.succ.inj F.len, fun j a k q1 q2 => F.at_ (j + 1) a k q1 q2⟩
    refine ⟨kv :: fs, .cons h1 rfl rfl rfl t1, by simp [t2], fun f hf => ?_⟩
    rcases List.mem_cons.mp hf with rfl | hf
    · exact ⟨k, List.mem_cons_self, bs, h2⟩
    · obtain ⟨k', m, b⟩ := t3 f hf
      exact ⟨k', List.mem_cons_of_mem _ m, b⟩
theorem sortsAt_pairs {as : List Addr} {ks : List PyData} (F : Firsts s.heap as ks) (nd : as.Nodup) (hal : PySem.W.AllAlike ks) (hdf : ∀ (i j : Nat) (x y : PyData), ks[i]? = some x → ks[j]? = some y → i ≠ j → PyData.eqv x y = false) (hu : ∀ k ∈ ks, A.units + k.depth < cLine) :
    PySem.W.SortsAt prog w A s (pairKind as ks) (as.map .ref) := by
  refine ⟨fun v hv => ?_, ?_⟩
  · obtain ⟨a, ha, rfl⟩ := List.mem_map.mp hv
    obtain ⟨j, hj⟩ := List.getElem?_of_mem ha
    have hl : j < ks.length := by rw [← F.len]; exact (List.getElem?_eq_some_iff.mp hj).1
    exact ⟨_, pairKind_at nd hj (List.getElem?_eq_getElem hl)⟩
  · cases ks with
    | nil =>
      have : as = [] := List.length_eq_zero_iff.mp F.len
      subst this
      exact ⟨general', fun E x y a b Q ha _ _ => (by
        obtain ⟨j, a, k, h1, _⟩ := pairKind_inv ha
        simp at h1), fun h2 => absurd h2 (by simp)⟩
    | cons k₀ ks₀ =>
      have ty : ∀ k ∈ k₀ :: ks₀, PySem.W.dataType k = PySem.W.dataType k₀ := fun k hk => PySem.W.dataType_alike (hal k hk k₀ List.mem_cons_self)
      refine ⟨tuples' (PySem.W.dataType k₀ != Value.type "tuple"), ?_, fun h2 E Q hq => ?_⟩
      · intro E x y a b Q ha hb hq
        obtain ⟨i, a1, k1, e1, rfl, e2, rfl⟩ := pairKind_inv ha
        obtain ⟨j, a2, k2, f1, rfl, f2, rfl⟩ := pairKind_inv hb
        obtain ⟨kv, vv, bs, o1, r1⟩ := F.at_ i a1 k1 e1 e2
        obtain ⟨kv', vv', bs', o2, r2⟩ := F.at_ j a2 k2 f1 f2
        have m1 := List.mem_of_getElem? e2
        have m2 := List.mem_of_getElem? f2
        by_cases hij : i = j
        · subst hij
          rw [e1] at f1; cases f1
          rw [e2] at f2; cases f2
          rw [o1] at o2; cases o2
          have hq : Q false s := by
            have : (pairKind as (k₀ :: ks₀)).blt (PySem.W.keyToks k1) (PySem.W.keyToks k1) = false := (pairKind as (k₀ :: ks₀)).irrefl _
            rw [this] at hq; exact hq
          refine PySem.W.kat_lt o1 rfl o1 rfl ?_
          have e0 : decide ((#[kv, vv] : Array Value).size < (#[kv, vv] : Array Value).size) = false := by simp
          rw [e0]
          show PySem.W.KatLex prog w A _ false Q [(kv, kv), (vv, vv)] 0 s
          exact PySem.W.kat_cons (SeqAt.EqAt.same kv prog w _ _ (PySem.W.kat_yes (PySem.W.kat_cons (SeqAt.EqAt.same vv prog w _ _ (PySem.W.kat_yes (PySem.W.kat_nil hq))))))
        · have hd := hdf i j k1 k2 e2 f2 hij
          have hl := hal k1 m1 k2 m2
          have room : A.units + min k1.depth k2.depth < cLine := Nat.lt_of_le_of_lt (Nat.add_le_add_left (Nat.min_le_left _ _) _) (hu k1 m1)
          refine PySem.W.kat_lt o1 rfl o2 rfl ?_
          show PySem.W.KatLex prog w A _ _ Q [(kv, kv'), (vv, vv')] 0 s
          refine PySem.W.kat_cons (PySem.W.eqAt_alike k1 k2 A s _ _ _ _ r1 r2 hl room prog w _ _ ?_)
          rw [hd]
          refine PySem.W.kat_no (PySem.W.oneLt_alike (fun hbi t => ?_) r1 r2 hl (PySem.W.ne_none_of hl hd) room hq)
          rw [Bool.and_eq_true] at hbi
          have := hbi.1
          rw [← ty k1 m1] at this
          exact PySem.W.dataType_tuple this t
      · obtain ⟨fs, t1, t2, t3⟩ := firsts_tups F
        rw [List.length_map] at h2
        refine PySem.W.kat_kind (T := PySem.W.dataType k₀) t1 (by omega) (fun f hf => ?_) (beq_self_eq_true _) hq
        obtain ⟨k, m, bs, r⟩ := t3 f hf
        rw [← ty k m]
        exact PySem.W.looks_reads r
/-- the order of the pairs -/
theorem sortVals_pairs {as : List Addr} {ks : List PyData} (hl : as.length = ks.length) (nd : as.Nodup) :
    PySem.W.sortVals (pairKind as ks) false (as.map .ref) (as.map .ref) = ((as.zip ks).mergeSort fun a b => !PySem.W.dataLt b.2 a.2).map fun p => Value.ref p.1 := by
  unfold PySem.W.sortVals
  have e1 : (as.map Value.ref).zip (as.map Value.ref) = (as.zip ks).map fun p => (Value.ref p.1, Value.ref p.1) := by
    clear nd
    induction as generalizing ks with
    | nil => rfl
    | cons a as ih =>
      cases ks with
      | nil => cases hl
      | cons k ks => simp only [List.map_cons, List.zip_cons_cons]; rw [ih (Nat.succ.inj hl)]
  rw [e1, ← PySem.W.sort_maps (r := fun a b : Addr × PyData => !PySem.W.dataLt b.2 a.2) (fun p : Addr × PyData => (Value.ref p.1, Value.ref p.1)), List.map_map]
  · rfl
  · intro a ha b hb
    have at_ : ∀ p ∈ as.zip ks, PySem.W.keyD (pairKind as ks) (.ref p.1) = PySem.W.keyToks p.2 := fun p hp => by
      obtain ⟨j, hj⟩ := List.getElem?_of_mem hp
      obtain ⟨h1, h2⟩ := List.getElem?_zip_eq_some.mp hj
      exact PySem.W.keyD_some (pairKind_at nd h1 h2)
    show (!PySem.W.dataLt b.2 a.2) = (!(pairKind as ks).blt (PySem.W.keyD (pairKind as ks) (.ref b.1)) (PySem.W.keyD (pairKind as ks) (.ref a.1)))
    rw [at_ a ha, at_ b hb]
    rfl
end
/-- pairs tracked at their addresses -/
def putV : Hp → List Addr → List (V × V) → Hp
  | H, a :: as, p :: its => putV (upd H a (.tup [p.1, p.2])) as its
  | H, _, _ => H
theorem putV_off {b : Addr} : ∀ (as : List Addr) (its : List (V × V)) (H : Hp), b ∉ as → putV H as its b = H b
  | [], _, _, _ => rfl
  | _ :: _, [], _, _ => rfl
  | a :: as, p :: its, H, h => by
    show putV (upd H a (.tup [p.1, p.2])) as its b = H b
    rw [putV_off as its _ (fun z => h (List.mem_cons_of_mem _ z)), upd_ne (fun z => h (by rw [z]; exact List.mem_cons_self))]
theorem putV_at : ∀ (as : List Addr) (its : List (V × V)) (H : Hp), as.Nodup → ∀ (j : Nat) (a : Addr) (p : V × V), as[j]? = some a → its[j]? = some p → putV H as its a = some (.tup [p.1, p.2])
  | a :: as, p :: its, H, hn, 0, b, q, h1, h2 => by
    simp at h1 h2
    subst h1 h2
    have hn' := List.nodup_cons.mp hn
    show putV (upd H a (.tup [p.1, p.2])) as its a = _
    rw [putV_off as its _ hn'.1, upd_same]
  | a :: as, p :: its, H, hn, j + 1, b, q, h1, h2 => putV_at as its _ (List.nodup_cons.mp hn).2 j b q (by simpa using h1) (by simpa using h2)
  | [], _, _, _, j, b, q, h1, _ => by simp at h1
  | a :: as, [], _, _, j, b, q, _, h2 => by simp at h2
section
variable {p : Pg} {N : List Str} {sc : Scope} {fn : Str → Bool} {k : Nat} {X : Cx} {G : Fns} {ρ : Env'} {S : Store} {ea eb : Expr} {pos : Pos} {a b : Ex}
theorem okDist_of {ks : List D} (h : okDist ks = true) : okAll ks = true ∧ ks.length ≤ sizeLine ∧ nodupD ks = true := by
  unfold okDist at h
  simp only [Bool.and_eq_true, decide_eq_true_eq] at h
  exact ⟨h.1, h.2.1, h.2.2.1⟩
theorem nodupD_at : ∀ {ks : List D}, nodupD ks = true → (∀ x ∈ ks, ∀ y ∈ ks, eqD x y = eqD y x) → ∀ (i j : Nat) (x y : D), ks[i]? = some x → ks[j]? = some y → i ≠ j → eqD x y = false
  | [], _, _, i, j, x, y, h1, _, _ => by simp at h1
  | z :: ks, h, sm, i, j, x, y, h1, h2, hij => by
    simp only [nodupD, Bool.and_eq_true, List.all_eq_true, Bool.not_eq_true'] at h
    cases i with
    | zero =>
      simp at h1; subst h1
      cases j with
      | zero => exact absurd rfl hij
      | succ j => exact h.1 y (List.mem_of_getElem? (by simpa using h2))
    | succ i =>
      cases j with
      | zero =>
        simp at h2; subst h2
        rw [sm x (List.mem_cons_of_mem _ (List.mem_of_getElem? (by simpa using h1))) z List.mem_cons_self]
        exact h.1 x (List.mem_of_getElem? (by simpa using h1))
      | succ j => exact nodupD_at h.2 (fun x hx y hy => sm x (List.mem_cons_of_mem _ hx) y (List.mem_cons_of_mem _ hy)) i j x y (by simpa using h1) (by simpa using h2) (by omega)
theorem sit_core {Pr F H : Hp} {ι : List Addr} {α : Nat → Addr} {σ : L2.St} {pins : List (Addr × Obj)} {s : Shared} {r d : Addr} {es : Array DictEntry} {ep : Nat} {its : List (V × V)} {ds : List (D × D)} {Q : VK}
    (g : Good p N sc fn k X) (R : Rel p Pr ρ S F ι α σ H) (I : Inv X pins σ H s) (hv : s.heap.IsItemsView r d) (hm : s.heap.DictRaw d es ep) (hn : es.size ≤ sizeLine)
    (hpl : its.length = es.size) (hpv : ∀ (j : Nat) (hj : j < es.size) (q : V × V), its[j]? = some q → RelV q.1 es[j].key ∧ RelV q.2 es[j].val)
    (r1 : Reps p.K F ι (its.map (·.1)) (ds.map (·.1))) (r2 : Reps p.K F ι (its.map (·.2)) (ds.map (·.2))) (ok : okDist (ds.map (·.1)) = true)
    (q : ∀ c F' H', Rel p Pr ρ S F' ι α σ H' → LeH F F' → Fr p Pr ρ F' ι α H' c (.lst ((ds.mergeSort fun a b => leD a.1 b.1).map fun e => .tup [e.1, e.2])) → Q (.ref c) H') :
    wpAny (model X.prog X.w) X.A (call (.builtin "sorted") [.ref r]) (EP X pins σ Q) X.xe s := by
  have hK : X.K = p.K := g.K
  have hdl : its.length = ds.length := by have := r1.length; simpa using this
  obtain ⟨okA, _, ndk⟩ := okDist_of ok
  obtain ⟨al, pn, dp⟩ := alikeAll_of okA
  have hs : ∀ (i j : Nat) (x y : PyData), (pys (ds.map (·.1)))[i]? = some x → (pys (ds.map (·.1)))[j]? = some y → i ≠ j → PyData.eqv x y = false := fun i j x y h1 h2 hij => by
    rw [pys_map, List.getElem?_map] at h1 h2
    obtain ⟨x', g1, rfl⟩ := Option.map_eq_some_iff.mp h1
    obtain ⟨y', g2, rfl⟩ := Option.map_eq_some_iff.mp h2
    exact nodupD_at ndk (fun x _ y _ => PySem.W.eqv_comm _ _) i j x' y' g1 g2 hij
  refine PySem.Calls.call_function_entry kind_sorted plain_sorted entry_sorted (args_sorted1 _) ?_
  unfold Builtin.«sorted»
  refine wpAny_bind (m := checkCount "sorted" 1 1 _) (wpAny_pure ?_)
  refine wpAny_bind (PySem.W.dil_collect (A := X.A.in1) (I.ok.hd g.calm) hv hm hn fun h' tk as hk hl hG => ?_)
  have nd : as.Nodup := hG.rise.imp fun h => Nat.ne_of_lt h
  have hal : as.length = ds.length := by omega
  refine wpAny_bind (wpAny_newList ?_ (by rw [List.length_map]; omega))
  have I' : Inv X pins σ H { s with heap := h', toks := tk } := I.kept hk
  have newB : H h'.objs.size = none := I'.hok.fresh (Nat.le_refl _)
  have newA : ∀ a ∈ as, H a = none := fun a ha => I.hok.fresh (Nat.le_of_lt (hG.above a ha))
  have ltA : ∀ a ∈ as, a < h'.objs.size := fun a ha => hG.there ha
  have hBA : h'.objs.size ∉ as := fun z => Nat.lt_irrefl _ (ltA _ z)
  have objs : ∀ (j : Nat) (a : Addr) (q : V × V), as[j]? = some a → its[j]? = some q → ∃ kv vv, h'.get? a = some { cls := .type "tuple", data := .seq #[kv, vv] } ∧ RelV q.1 kv ∧ RelV q.2 vv := fun j a q h1 h2 => by
    obtain ⟨hj, e⟩ := hG.pairs j a h1
    exact ⟨_, _, e, (hpv j hj q h2).1, (hpv j hj q h2).2⟩
  generalize hB : h'.objs.size = B at newB hBA
  have oB : (h'.push { cls := .type "list", data := .seq (as.map Value.ref).toArray }).get? B = some (seqObj "list" (as.map Value.ref).toArray 0) := by rw [← hB]; exact Heap.get?_push_size _ rfl
  have old : ∀ b o, b ≠ B → h'.get? b = some o → (PySem.W.sortingHeap (h'.push { cls := .type "list", data := .seq (as.map Value.ref).toArray }) B (as.map Value.ref)).get? b = some o := fun b o hb e => PySem.W.sortingHeap_old hb (Heap.get?_push_of_some _ e)
  have F0 : Firsts (PySem.W.sortingHeap (h'.push { cls := .type "list", data := .seq (as.map Value.ref).toArray }) B (as.map Value.ref)) as (pys (ds.map (·.1))) := ⟨by rw [pys_map]; simp [hal], fun j a k h1 h2 => by
    have hj : j < its.length := by have := (List.getElem?_eq_some_iff.mp h1).1; omega
    have h3 : its[j]? = some its[j] := List.getElem?_eq_getElem hj
    obtain ⟨kv, vv, e1, e2, e3⟩ := objs j a its[j] h1 h3
    have ha := List.mem_of_getElem? h1
    rw [pys_map, List.getElem?_map] at h2
    obtain ⟨x, h4, rfl⟩ := Option.map_eq_some_iff.mp h2
    obtain ⟨v, h5, h6⟩ := r1.at h4
    rw [List.getElem?_map, h3] at h5
    cases h5
    obtain ⟨bs, rd⟩ := Dp.reads I' _ _ _ (by rw [hK]; exact dp_of R.wd.sub h6 (plains_mem pn x (List.mem_of_getElem? h4))) e2
    exact ⟨kv, vv, bs, old _ _ (fun z => hBA (z ▸ ha)) e1, Reads.keeps (fun b o e => old b o (fun z => by rw [z] at e; exact absurd (Heap.lt_size e) (by rw [← hB]; exact Nat.lt_irrefl _)) e) rd⟩⟩
  have room : ∀ k ∈ pys (ds.map (·.1)), X.A.in1.in1.units + k.depth < cLine := fun k hk => by
    have hu := g.units
    have h2 : k.depth ≤ PyData.depthAll (pys (ds.map (·.1))) := by
      generalize pys (ds.map (·.1)) = l at hk
      induction l with
      | nil => cases hk
      | cons x l ih =>
        rw [PyData.depthAll]
        rcases List.mem_cons.mp hk with e | h
        · rw [e]; exact Nat.le_max_left _ _
        · exact Nat.le_trans (ih h) (Nat.le_max_right _ _)
    show X.A.units + 1 + 1 + k.depth < cLine
    omega
  have SA := sortsAt_pairs (prog := X.prog) (w := X.w) (A := X.A.in1.in1) (s := { s with heap := PySem.W.sortingHeap (h'.push { cls := .type "list", data := .seq (as.map Value.ref).toArray }) B (as.map Value.ref), toks := tk }) F0 nd al.1 hs room
  have SV := sortVals_pairs (as := as) (ks := pys (ds.map (·.1))) (by rw [pys_map]; simp [hal]) nd
  refine wpAny_bind (wpAny_holding (wpAny_call_entry_kw slot_list_sort ⟨_, oB, rfl⟩ entry_list_sort (PySem.W.list_sort_vals (s := { s with heap := h'.push { cls := .type "list", data := .seq (as.map Value.ref).toArray }, toks := tk }) oB SA (by rw [List.length_map]; omega) ?_) (args_list_sort _)))
  refine ⟨_, rfl, wpAny_pure ⟨_, rfl, ?_⟩⟩
  rw [SV]
  -- the end
  generalize hbs : ((as.zip (pys (ds.map (·.1)))).mergeSort fun a b => !PySem.W.dataLt b.2 a.2).map (fun p => p.1) = bs
  have hbv : (((as.zip (pys (ds.map (·.1)))).mergeSort fun a b => !PySem.W.dataLt b.2 a.2).map fun p => Value.ref p.1) = bs.map Value.ref := by rw [← hbs, List.map_map]; rfl
  rw [hbv]
  have hbl : bs.length = as.length := by
    rw [← hbs, List.length_map, List.length_mergeSort, List.length_zip, pys_map, List.length_map, List.length_map, hal]; simp
  obtain ⟨e2, hB2⟩ := sortedHeap_at (vs := as.map Value.ref) (out := (bs.map Value.ref).toArray) oB
  have keepF : ∀ b o, s.heap.get? b = some o → (sortedHeap (h'.push { cls := .type "list", data := .seq (as.map Value.ref).toArray }) B (as.map Value.ref) (bs.map Value.ref).toArray).get? b = some o := fun b o e => by
    have e1 := hk b o e
    have lt := Heap.lt_size e1
    rw [sortedHeap_old (fun z => by rw [z, ← hB] at lt; exact Nat.lt_irrefl _ lt) (by rw [Heap.size_push]; exact Nat.lt_succ_of_lt lt)]
    exact Heap.get?_push_of_some _ e1
  have keepA : ∀ b o, b ≠ B → h'.get? b = some o → (sortedHeap (h'.push { cls := .type "list", data := .seq (as.map Value.ref).toArray }) B (as.map Value.ref) (bs.map Value.ref).toArray).get? b = some o := fun b o hb e1 => by
    have lt := Heap.lt_size e1
    rw [sortedHeap_old hb (by rw [Heap.size_push]; exact Nat.lt_succ_of_lt lt)]
    exact Heap.get?_push_of_some _ e1
  generalize (sortedHeap (h'.push { cls := .type "list", data := .seq (as.map Value.ref).toArray }) B (as.map Value.ref) (bs.map Value.ref).toArray) = hF at *
  have low : ∀ b o, s.heap.get? b = some o → b ∉ as ∧ b ≠ B := fun b o e => ⟨fun z => absurd (Heap.lt_size e) (Nat.not_lt.mpr (Nat.le_of_lt (hG.above b z))), fun z => by
    have := Heap.lt_size (hk b o e)
    rw [z, ← hB] at this
    exact Nat.lt_irrefl _ this⟩
  have off : ∀ b, b ∉ as → b ≠ B → putV (upd H B (.lst (bs.map V.ref))) as its b = H b := fun b h1 h2 => by rw [putV_off as its _ h1, upd_ne h2]
  have kp : ∀ b u, H b = some u → putV (upd H B (.lst (bs.map V.ref))) as its b = some u := fun b u e => by
    rw [off b (fun z => by rw [newA b z] at e; cases e) (fun z => by rw [z, newB] at e; cases e)]
    exact e
  have eB : putV (upd H B (.lst (bs.map V.ref))) as its B = some (.lst (bs.map V.ref)) := by rw [putV_off as its _ hBA, upd_same]
  have itsAt : ∀ (j : Nat) (a : Addr), as[j]? = some a → ∃ q, its[j]? = some q := fun j a e => ⟨its[j]'(by have := (List.getElem?_eq_some_iff.mp e).1; omega), List.getElem?_eq_getElem _⟩
  have J : Inv X pins σ (putV (upd H B (.lst (bs.map V.ref))) as its) { s with heap := hF, toks := tk } := by
    refine I.call' (ch := []) rfl ⟨fun b o e _ _ _ => keepF b o e, fun b o e _ _ _ => ⟨o.slots, keepF b o e⟩, fun b o e n _ => ?_, fun b o e _ => ⟨o, keepF b o e⟩, fun b xs e => kp b _ e, fun b o u e => kp b _ e, fun b ps e => ⟨#[], by rw [kp b _ e]; simp⟩⟩ (fun b u e => ?_) I.bare fun b z => by simp at z
    · obtain ⟨z1, z2⟩ := low b o e
      rw [off b z1 z2]
      exact n
    · by_cases hb : b ∈ as
      · obtain ⟨j, hj⟩ := List.getElem?_of_mem hb
        obtain ⟨pq, hq⟩ := itsAt j b hj
        rw [putV_at as its _ nd j b pq hj hq] at e
        cases e
        obtain ⟨kv, vv, o1, o2, o3⟩ := objs j b pq hj hq
        exact ⟨by show 2 ≤ sizeLine; decide, [kv, vv], .cons o2 (.cons o3 .nil), ⟨_, keepA _ _ (fun z => hBA (z ▸ hb)) o1, rfl, _, rfl⟩⟩
      · by_cases hb2 : b = B
        · rw [hb2] at e ⊢
          rw [eB] at e
          cases e
          refine ⟨by rw [List.length_map]; omega, bs.map Value.ref, e2, LiI.vals_refs bs, hB2⟩
        · rw [off b hb hb2] at e
          exact (I.hok b u e).stay (fun c v _ y => keepF c v y) (fun c y => kp c _ y) fun c xs y => kp c _ y
  have hFB : F B = none := R.wd.fresh newB
  have hFA : ∀ a ∈ as, F a = none := fun a ha => R.wd.fresh (newA a ha)
  have gr : Grow F H (putV F as its) (putV (upd H B (.lst (bs.map V.ref))) as its) := ⟨kp, fun b o e => by
    rw [putV_off as its _ (fun z => by rw [hFA b z] at e; cases e)]; exact e, fun b o e => by
    by_cases hb : b ∈ as
    · obtain ⟨j, hj⟩ := List.getElem?_of_mem hb
      obtain ⟨pq, hq⟩ := itsAt j b hj
      rw [putV_at as its _ nd j b pq hj hq] at e
      cases e
      exact .inr ⟨putV_at as its _ nd j b pq hj hq, .inl (newA b hb)⟩
    · rw [putV_off as its _ hb] at e
      exact .inl e⟩
  have R2 := R.grow gr
  have zl : ∀ b ∈ as.zip ds, Rep p.K (putV F as its) ι (.ref b.1) (.tup [b.2.1, b.2.2]) := fun b hb => by
    obtain ⟨j, hj⟩ := List.getElem?_of_mem hb
    obtain ⟨h1, h2⟩ := List.getElem?_zip_eq_some.mp hj
    obtain ⟨pq, hq⟩ := itsAt j _ h1
    obtain ⟨v1, g1, g2⟩ := r1.at (show (ds.map (·.1))[j]? = some b.2.1 by rw [List.getElem?_map, h2]; rfl)
    obtain ⟨v2, g3, g4⟩ := r2.at (show (ds.map (·.2))[j]? = some b.2.2 by rw [List.getElem?_map, h2]; rfl)
    rw [List.getElem?_map, hq] at g1 g3
    cases g1
    cases g3
    exact .tup (putV_at as its _ nd j _ pq h1 hq) (.cons (g2.le gr.f (LeA.refl _)) (.cons (g4.le gr.f (LeA.refl _)) .nil))
  have rall : ∀ l : List (Addr × D × D), (∀ b ∈ l, Rep p.K (putV F as its) ι (.ref b.1) (.tup [b.2.1, b.2.2])) → Reps p.K (putV F as its) ι (l.map fun b => V.ref b.1) (l.map fun b => D.tup [b.2.1, b.2.2]) := by
    intro l
    induction l with
    | nil => exact fun _ => .nil
    | cons b l ih => exact fun h => .cons (h b List.mem_cons_self) (ih fun c hc => h c (List.mem_cons_of_mem _ hc))
  have zs : ((as.zip ds).mergeSort fun a b => leD a.2.1 b.2.1).map (fun b => b.2) = ds.mergeSort fun a b => leD a.1 b.1 := by
    rw [PySem.W.sort_maps (s := fun a b : D × D => leD a.1 b.1) (fun b : Addr × D × D => b.2) (fun _ _ _ _ => rfl), List.map_snd_zip (by omega)]
  have zb : ((as.zip ds).mergeSort fun a b => leD a.2.1 b.2.1).map (fun b => b.1) = bs := by
    rw [← hbs]
    have e1 : as.zip (pys (ds.map (·.1))) = (as.zip ds).map fun b => (b.1, b.2.1.py) := by
      rw [pys_map, List.map_map, List.zip_map_right]; rfl
    rw [e1, ← PySem.W.sort_maps (r := fun a b : Addr × D × D => leD a.2.1 b.2.1) (fun b : Addr × D × D => (b.1, b.2.1.py)) (fun _ _ _ _ => rfl), List.map_map]
    rfl
  have rr := rall ((as.zip ds).mergeSort fun a b => leD a.2.1 b.2.1) fun b hb => zl b ((List.mergeSort_perm _ _).mem_iff.mp hb)
  have rr2 : Reps p.K (putV F as its) ι (bs.map V.ref) ((ds.mergeSort fun a b => leD a.1 b.1).map fun e => .tup [e.1, e.2]) := by
    rw [← zs, ← zb, List.map_map, List.map_map]
    exact rr
  have prB : Pr B = none := by
    cases z : Pr B with
    | none => rfl
    | some u => rw [(R.wd.prot B u z).1] at newB; cases newB
  have ow : ∀ j e, ρ[j]? = some (.own e) → α j ≠ B := fun j e hj z => by
    obtain ⟨_, _, _, h4, _⟩ := R.own j e hj
    obtain ⟨u, t, _⟩ := h4.there
    rw [z, newB] at t; cases t
  have fin : Q (.ref B) (putV (upd H B (.lst (bs.map V.ref))) as its) := q B _ _ R2 gr.f ⟨⟨_, eB, rr2⟩, by rw [putV_off as its _ hBA]; exact hFB, R.wd.notin newB, prB, ow⟩
  exact ⟨.ref B, _, J, rfl, fin⟩
/-- a dict by its entries -/
structure RawD (p : Pg) (h : Heap) (F : Hp) (ι : List Addr) (a : Addr) (es : Array DictEntry) (ep : Nat) (its : List (V × V)) (ds : List (D × D)) : Prop where
  raw : h.DictRaw a es ep
  sys : (a == sysModules) = false
  len : its.length = es.size
  sz : es.size ≤ sizeLine
  at_ : ∀ (j : Nat) (hj : j < es.size) (q : V × V), its[j]? = some q → RelV q.1 es[j].key ∧ RelV q.2 es[j].val
  keys : Reps p.K F ι (its.map (·.1)) (ds.map (·.1))
  vals : Reps p.K F ι (its.map (·.2)) (ds.map (·.2))
theorem ks_reps1 {K : PySem.W.Frag} {F : Hp} {ι : List Addr} {γ : Type} (f : γ → Key) : ∀ l : List γ, Reps K F ι (l.map fun e => kV (f e)) (l.map fun e => dK1 (f e))
  | [] => .nil
  | e :: l => .cons (dK1_rep _) (ks_reps1 f l)
theorem raw_dK {Pr F H : Hp} {ι : List Addr} {α : Nat → Addr} {σ : L2.St} {a : Addr} {kvs : List (Key × V)} {fs : List (Key × D)} {s : Shared} {pins : List (Addr × Obj)} (R : Rel p Pr ρ S F ι α σ H) (I : Inv X pins σ H s) (hd : Rd H a (.dK kvs)) (rk : RKV p.K F ι kvs fs) :
    ∃ es ep its, RawD p s.heap F ι a es ep its (fs.map fun e => (dK1 e.1, e.2)) := by
  obtain ⟨z, n, vs, kv, d⟩ := dk_rd I.hok hd
  obtain ⟨es, ep, r, sz, at_⟩ := d.raw
  have lk : kvs.length = vs.length := Paired.length kv
  refine ⟨es, ep, kvs.map fun e => (kV e.1, e.2), r, n, by rw [List.length_map]; omega, by omega, fun j hj q hq => ?_, ?_, ?_⟩
  · rw [List.getElem?_map] at hq
    obtain ⟨e, h1, rfl⟩ := Option.map_eq_some_iff.mp hq
    obtain ⟨y, h2, h3, h4⟩ := LiI.paired_get kv h1
    obtain ⟨k1, k2⟩ := at_ j hj y.1 y.2 h2
    rw [← h3] at k1
    exact ⟨relV_key (show keyIs e.1 es[j].key = true from k1), by rw [k2]; exact h4⟩
  · rw [List.map_map, List.map_map]
    have e1 : kvs.map ((fun x : V × V => x.1) ∘ fun e => (kV e.1, e.2)) = (fs.map (·.1)).map kV := by rw [← rk.1, List.map_map]; rfl
    rw [e1, List.map_map]
    exact ks_reps1 (fun e : Key × D => e.1) fs
  · rw [List.map_map, List.map_map]
    exact rk.2
theorem raw_dT {Pr F H : Hp} {ι : List Addr} {α : Nat → Addr} {σ : L2.St} {a : Addr} {kvs : List (List Key × V)} {fs : List (List Key × D)} {s : Shared} {pins : List (Addr × Obj)} (R : Rel p Pr ρ S F ι α σ H) (I : Inv X pins σ H s) (hd : Rd H a (.dT kvs)) (rk : RKV p.K F ι kvs fs) :
    ∃ F' es ep its, Grow F H F' H ∧ RawD p s.heap F' ι a es ep its (fs.map fun e => (dT1 e.1, e.2)) := by
  obtain ⟨z, n, xs, kt, d⟩ := dt_rd I.hok hd
  obtain ⟨es, ep, r, sz, at_⟩ := d.raw
  have lk : kvs.length = xs.length := Paired.length kt
  -- the key tuples join what is kept
  have tupF : ∀ (b : Addr) (o : HO) (ks : List Key), F b = some o → H b = some (.tup (ks.map kV)) → o = .tup (ks.map kV) := fun b o ks h1 h2 => by
    rcases R.wd.sub _ _ h1 with q | ⟨_, ob, q⟩
    · rw [h2] at q; cases q; rfl
    · rw [h2] at q; cases q
  let F' : Hp := fun b => match F b with
    | some o => some o
    | none => if b ∈ xs.map (·.2.1) then H b else none
  have fl : LeH F F' := fun b o e => by show (match F b with | some o => some o | none => _) = _; rw [e]
  have fn : ∀ b, F b = none → b ∈ xs.map (·.2.1) → F' b = H b := fun b e m => by show (match F b with | some o => some o | none => _) = _; rw [e]; simp only; rw [if_pos m]
  have kH : ∀ (j : Nat) (y : List Key × Addr × Value), xs[j]? = some y → ∃ e, kvs[j]? = some e ∧ e.1 = y.1 ∧ H y.2.1 = some (.tup (y.1.map kV)) ∧ RelV e.2 y.2.2 := fun j y hy => by
    have hj : j < kvs.length := by rw [lk]; exact (List.getElem?_eq_some_iff.mp hy).1
    obtain ⟨y', h1, h2, h3, h4⟩ := LiI.paired_get kt (List.getElem?_eq_getElem hj)
    rw [hy] at h1; cases h1
    exact ⟨kvs[j], List.getElem?_eq_getElem hj, h2, by rw [← h2]; exact h3, h4⟩
  have gr : Grow F H F' H := ⟨LeH.refl _, fl, fun b o e => by
    cases hF : F b with
    | some u => left; rw [fl b u hF] at e; exact e
    | none =>
      right
      have e : (match F b with | some o => some o | none => if b ∈ xs.map (·.2.1) then H b else none) = some o := e
      rw [hF] at e
      simp only at e
      split at e
      · rename_i m
        refine ⟨e, .inr ?_⟩
        obtain ⟨y, hy, rfl⟩ := List.mem_map.mp m
        obtain ⟨j, hj⟩ := List.getElem?_of_mem hy
        obtain ⟨_, _, _, h3, _⟩ := kH j y hj
        rw [h3] at e; cases e
        exact ⟨_, rfl⟩
      · cases e⟩
  have kF : ∀ (j : Nat) (y : List Key × Addr × Value), xs[j]? = some y → F' y.2.1 = some (.tup (y.1.map kV)) := fun j y hy => by
    obtain ⟨_, _, _, h3, _⟩ := kH j y hy
    cases hF : F y.2.1 with
    | some o => rw [fl _ _ hF, tupF _ _ _ hF h3]
    | none => rw [fn _ hF (List.mem_map.mpr ⟨y, List.mem_of_getElem? hy, rfl⟩), h3]
  have hrk : RKV p.K F' ι kvs fs := rk.le fl (LeA.refl _)
  have kd : kvs.map (·.1) = fs.map (·.1) := rk.1
  have kx : xs.map (·.1) = kvs.map (·.1) := by
    refine List.ext_getElem? fun j => ?_
    rw [List.getElem?_map, List.getElem?_map]
    cases hx : xs[j]? with
    | none => rw [List.getElem?_eq_none (by have := List.getElem?_eq_none_iff.mp hx; omega)]; rfl
    | some y => obtain ⟨e, h1, h2, _⟩ := kH j y hx; rw [h1]; simp [h2]
  refine ⟨F', es, ep, (xs.zip kvs).map fun q => (.ref q.1.2.1, q.2.2), gr, r, n, by rw [List.length_map, List.length_zip]; omega, by omega, fun j hj q hq => ?_, ?_, ?_⟩
  · rw [List.getElem?_map] at hq
    obtain ⟨⟨y, e⟩, h1, rfl⟩ := Option.map_eq_some_iff.mp hq
    obtain ⟨h2, h3⟩ := List.getElem?_zip_eq_some.mp h1
    obtain ⟨y', k1, k2, k3, _⟩ := at_ j hj
    rw [h2] at k1; cases k1
    obtain ⟨e', g1, _, _, g4⟩ := kH j y h2
    rw [h3] at g1; cases g1
    exact ⟨by rw [k2]; rfl, by rw [k3]; exact g4⟩
  · have e1 : ((xs.zip kvs).map fun q => ((V.ref q.1.2.1, q.2.2) : V × V)).map (·.1) = xs.map fun y => V.ref y.2.1 := by
      rw [List.map_map, show ((fun x : V × V => x.1) ∘ fun q : (List Key × Addr × Value) × (List Key × V) => ((V.ref q.1.2.1, q.2.2) : V × V)) = (fun y : List Key × Addr × Value => V.ref y.2.1) ∘ (·.1) from rfl, ← List.map_map, List.map_fst_zip (by omega)]
    have e2 : (fs.map fun e => (dT1 e.1, e.2)).map (·.1) = (xs.map (·.1)).map dT1 := by rw [kx, kd, List.map_map, List.map_map]; rfl
    rw [e1, e2, List.map_map]
    have : ∀ l : List (List Key × Addr × Value), (∀ y ∈ l, F' y.2.1 = some (.tup (y.1.map kV))) → Reps p.K F' ι (l.map fun y => V.ref y.2.1) (l.map (dT1 ∘ fun y => y.1)) := by
      intro l
      induction l with
      | nil => exact fun _ => .nil
      | cons y l ih => exact fun h => .cons (.tup (h y List.mem_cons_self) (ks_reps y.1)) (ih fun c hc => h c (List.mem_cons_of_mem _ hc))
    exact this xs fun y hy => by obtain ⟨j, hj⟩ := List.getElem?_of_mem hy; exact kF j y hj
  · have e1 : ((xs.zip kvs).map fun q => ((V.ref q.1.2.1, q.2.2) : V × V)).map (·.2) = kvs.map (·.2) := by
      rw [List.map_map, show ((fun x : V × V => x.2) ∘ fun q : (List Key × Addr × Value) × (List Key × V) => ((V.ref q.1.2.1, q.2.2) : V × V)) = (fun y : List Key × V => y.2) ∘ (·.2) from rfl, ← List.map_map, List.map_snd_zip (by omega)]
    rw [e1, List.map_map]
    exact hrk.2
theorem sitD_eq {u d : D} (e : sitD u = some d) : (∃ es : List (Key × D), u = .dK es ∧ okDist (es.map fun e => dK1 e.1) = true ∧ d = .lst (((es.map fun e => (dK1 e.1, e.2)).mergeSort fun a b => leD a.1 b.1).map fun e => .tup [e.1, e.2])) ∨
    ∃ es : List (List Key × D), u = .dT es ∧ okDist (es.map fun e => dT1 e.1) = true ∧ d = .lst (((es.map fun e => (dT1 e.1, e.2)).mergeSort fun a b => leD a.1 b.1).map fun e => .tup [e.1, e.2]) := by
  cases u <;> try cases e
  · rename_i es
    have e : (if okDist (es.map fun e => dK1 e.1) then some (D.lst ((es.mergeSort fun a b => leD (dK1 a.1) (dK1 b.1)).map fun e => .tup [dK1 e.1, e.2])) else none) = some d := e
    split at e
    · rename_i h
      cases e
      refine .inl ⟨es, rfl, h, ?_⟩
      rw [← PySem.W.sort_maps (r := fun a b : Key × D => leD (dK1 a.1) (dK1 b.1)) (fun e : Key × D => (dK1 e.1, e.2)) (fun _ _ _ _ => rfl), List.map_map]
      rfl
    · cases e
  · rename_i es
    have e : (if okDist (es.map fun e => dT1 e.1) then some (D.lst ((es.mergeSort fun a b => leD (dT1 a.1) (dT1 b.1)).map fun e => .tup [dT1 e.1, e.2])) else none) = some d := e
    split at e
    · rename_i h
      cases e
      refine .inr ⟨es, rfl, h, ?_⟩
      rw [← PySem.W.sort_maps (r := fun a b : List Key × D => leD (dT1 a.1) (dT1 b.1)) (fun e : List Key × D => (dT1 e.1, e.2)) (fun _ _ _ _ => rfl), List.map_map]
      rfl
    · cases e
theorem fn_sitm {apos cpos pp : Pos} {x : Str} (g : Good p N sc fn k X) (hx : x = "sorted") (hg : sc.names.lookup x = some .globalImplicit) (hm : p.mg x = none) (hb : noCall ea = true) (hl : (apos.endLine == cpos.line) = true)
    (ha : FH p X ρ S ea (hOf a ρ S (evE G a ρ S))) : FN p X ρ S (.Call (.Name x pp) [.Call (.Attribute ea "items" apos) [] [] cpos] [] pos) (evE G (.sitm a) ρ S) := by
  intro Pr F ι α σ H R d S' e Q q pins s I
  rw [evE] at e
  obtain ⟨⟨w, S1⟩, e1, e⟩ := Option.bind_eq_some_iff.mp e
  obtain ⟨u, e2, e⟩ := Option.bind_eq_some_iff.mp e
  obtain ⟨d', e5, e6⟩ := Option.map_eq_some_iff.mp e
  cases e6
  have hG : Gl X x := by show X.env.scope.names.lookup x = _; rw [g.sc]; exact hg
  have hM : X.mg x = none := by rw [← hm, ← g.pg]; rfl
  subst hx
  refine wpAny_Call_Name_kw (ld_blt I hG hM (show bootBuiltins ("sorted" : Str) = some (.builtin "sorted") by decide +kernel) ?_ (by decide) (by decide))
  refine PyProof.Rows.callWith_builtin1 ?_ (star_cons rfl) rfl
  rw [star_cons (e := .Call (.Attribute ea "items" apos) [] [] cpos) rfl]
  show wpAny _ _ (spliced ((false, eval (.Call (.Attribute ea "items" apos) [] [] cpos) X.env) :: backTo pos (starEach [] X.env))) _ _ s
  refine Calls.spliced_cons ?_
  have wa := ha Pr F ι α σ H R w S1 e1 (fun x H' => ∃ F' ι', Rel p Pr ρ S1 F' ι' α σ H' ∧ LeH F F' ∧ LeA ι ι' ∧ HRep p F' ι' α x w) fun x F' ι' H' R' l m r => ⟨F', ι', R', l, m, r⟩
  refine wpAny_Call_method (T := "dict") (id := "dict.items") (attr_ok hb) rfl hl PySem.F.plainAttrs_dict PySem.F.slot_dict_items PySem.F.type_dict_items (thn (wa pins s I) fun u s1 hx => ?_)
  obtain ⟨x, H1, I1, rx, F1, ι1, R1, l1, m1, r1⟩ := hx
  have cv := cv_of R1 r1 e2
  -- the dict by its entries
  have rawd : ∃ ad F2 es ep its ds, u = .ref ad ∧ Grow F1 H1 F2 H1 ∧ RawD p s1.heap F2 ι1 ad es ep its ds ∧ okDist (ds.map (·.1)) = true ∧ d = .lst ((ds.mergeSort fun a b => leD a.1 b.1).map fun e => .tup [e.1, e.2]) := by
    rcases sitD_eq e5 with ⟨fs, rfl, ok, rfl⟩ | ⟨fs, rfl, ok, rfl⟩
    · obtain ⟨ad, kvs, rfl, q1, q2, q3⟩ := cv
      obtain ⟨es, ep, its, rd⟩ := raw_dK (fs := fs) R1 I1 q1 ⟨q2, q3⟩
      exact ⟨ad, F1, es, ep, its, _, rx, .refl, rd, by rw [List.map_map]; exact ok, rfl⟩
    · obtain ⟨ad, kvs, rfl, q1, q2, q3⟩ := cv
      obtain ⟨F2, es, ep, its, gr, rd⟩ := raw_dT (fs := fs) R1 I1 q1 ⟨q2, q3⟩
      exact ⟨ad, F2, es, ep, its, _, rx, gr, rd, by rw [List.map_map]; exact ok, rfl⟩
  obtain ⟨ad, F2, es, ep, its, ds, rfl, gr, rd, ok, rfl⟩ := rawd
  have R2 := R1.grow gr
  refine ⟨rd.raw.typeIs, ?_, ?_⟩
  · intro b hb
    obtain ⟨o, ho, hc, _⟩ := rd.raw
    cases hb
    exact ⟨o, ho, hc.2.1⟩
  show wpAny _ _ (callWith cpos (.builtin "dict.items") [.ref ad] [] []) _ X.xe s1
  refine method_meetsIn PySem.F.slot_dict_items PySem.F.entry_dict_items rfl (PySem.evalArgs_none ⟨rfl, rd.raw.typeIs, PySem.F.args_dict_items_1 _, _, meets_dict_items_raw ad rd.sys, ⟨_, _, rd.raw⟩, ?_⟩)
  refine Calls.spliced_nil ?_
  have I2 : Inv X pins σ H1 { s1 with heap := s1.heap.push { cls := .type "dict_items", data := .fields #[.ref ad] } } := I1.kept (t' := s1.toks) fun b ob q => Heap.get?_push_of_some _ q
  exact sit_core g R2 I2 ⟨_, Heap.get?_push_size _ rfl, rfl, rfl⟩ (rd.raw.push _) rd.sz rd.len rd.at_ rd.keys rd.vals ok fun c F' H' R' l f => q c F' ι1 H' R' ((l1.trans gr.f).trans l) m1 f
end
end Z

set_option Elab.async false
set_option linter.all false
set_option maxRecDepth 100000
set_option maxHeartbeats 4000000
namespace Z
open PySem PySem.Spec PyProof.Rows L2
/-! # sorted(xs, key=f), f a def that leaves the store -/
section
variable {p : Pg} {N : List Str} {sc : Scope} {fn : Str → Bool} {k : Nat} {X : Cx} {G : Fns} {ρ : Env'} {S : Store} {ea eb : Expr} {pos : Pos} {a b : Ex}
/-- a callee runs, two built-ins deeper -/
theorem go_fn2 {f : Addr} {fd : FuncData} {ps : List Str} {gf : List D → Store → Option (D × Store)} {Pr F : Hp} {ι : List Addr} {α : Nat → Addr} {σ : L2.St} {H : Hp} {pins : List (Addr × Obj)} {s : Shared} {us : List Value} {vs : List V} {ds : List D} {d : D} {S' : Store} {Q : VK} {E : Value → Shared → Prop}
    (K : FnG p k f fd ps gf) (hb : Binds p.K fd ps []) (g : Good p N sc fn (k + 1) X) (I : Inv X pins σ H s) (rv : Vals vs us) (R : Rel p Pr ρ S F ι α σ H) (rs : Reps p.K F ι vs ds) (e : gf ds S = some (d, S'))
    (q : ∀ v F' ι' H', Rel p Pr ρ S' F' ι' α σ H' → LeH F F' → LeA ι ι' → Rep p.K F' ι' v d → Q v H') : wpAny (model X.prog X.w) X.A.in1.in1 (call (.ref f) us) (EP X pins σ Q) E s := by
  obtain ⟨cl, cn, rfl⟩ : ∃ cl cn, p = X.pg cl cn := ⟨p.cls, p.con, g.pg.symm⟩
  have hl : us.length = ps.length := by rw [← rv.length, rs.length]; exact K.len _ _ _ e
  have bd := hb s us I.kIn (by rw [List.append_nil]; exact hl)
  rw [List.append_nil] at bd
  have rm : Room k X.A.in1.in1 := ⟨g.room.hd, by have := g.room.dp; show X.A.depth + 3 * k + 5 < _; omega, by have := g.room.un; show X.A.units + 1 + 1 + 16 * k + 200 < _; omega⟩
  refine wpAny_call (codeAny_mono (K.run X.A.in1.in1 X.stack s H ⟨us, []⟩ us vs ds S S' d _ F ι rm g.grd I.env0.in1.in1 bd rv rs (grd_wd R) e) fun r s' hr => ?_)
  obtain ⟨u, rfl, v, H', os, bare, un, hok, ru, F', ι', W, l, m, rr⟩ := hr
  exact I.after ⟨v, H', os, bare, un, hok, ru, q v F' ι' H' (grd_back R W l m) l m rr⟩
/-- addresses behind all that stood -/
theorem Inv.newAt {pins : List (Addr × Obj)} {σ : L2.St} {H : Hp} {s : Shared} {c : Addr} (I : Inv X pins σ H s) (h : s.heap.objs.size ≤ c) : X.s_0.heap.objs.size ≤ c ∧ c ≠ X.env.locals ∧ c ∉ X.fs ∧ (∀ x d, X.env.cells.lookup x = some d → d ≠ c) ∧ (∀ q ∈ X.pn ++ pins, q.1 ≠ c) ∧ H c = none := by
  refine ⟨Nat.le_trans I.sz h, fun z => ?_, I.nofs h, fun x d e z => ?_, fun q hq z => ?_, I.hok.fresh h⟩
  · have := I.lt
    rw [← z] at this
    exact absurd (Nat.lt_of_lt_of_le this h) (Nat.lt_irrefl _)
  · obtain ⟨v, o, ho, _⟩ := I.cell x d e
    have := Heap.lt_size ho
    rw [z] at this
    exact absurd (Nat.lt_of_lt_of_le this h) (Nat.lt_irrefl _)
  · have := Heap.lt_size (I.pin q hq).1
    rw [z] at this
    exact absurd (Nat.lt_of_lt_of_le this h) (Nat.lt_irrefl _)
theorem keysG_at {f : D → Option (D × Store)} {S : Store} : ∀ {xs ks : List D}, keysG f S xs = some ks → ks.length = xs.length ∧ ∀ (j : Nat) (x : D), xs[j]? = some x → ∃ y, ks[j]? = some y ∧ f x = some (y, S)
  | [], ks, e => by cases e; exact ⟨rfl, fun j x h => by simp at h⟩
  | x :: xs, ks, e => by
    unfold keysG at e
    obtain ⟨⟨y, S'⟩, e1, e2⟩ := Option.bind_eq_some_iff.mp e
    split at e2
    · rename_i hS
      obtain ⟨ks', e3, rfl⟩ := Option.map_eq_some_iff.mp e2
      obtain ⟨h1, h2⟩ := keysG_at e3
      simp only at hS
      subst hS
      refine ⟨by simp [h1], fun j z h => ?_⟩
      cases j with
      | zero => simp at h; subst h; exact ⟨y, rfl, e1⟩
      | succ j => exact h2 j z (by simpa using h)
    · cases e2
theorem eachReads {h : Heap} : ∀ {us : List Value} {ds : List PyData} {as : List Addr}, ReadsAll h us ds as → PySem.W.EachIs (fun v k => ∃ as, Reads h v k as) us ds
  | [], _, _, r => by cases r; exact .nil
  | u :: us, _, _, r => by
    cases r with
    | cons a b => exact .cons ⟨_, a⟩ (eachReads b)
theorem skey_core {fa : Addr} {fd : FuncData} {prm : List Str} {gf : List D → Store → Option (D × Store)} {Pr F H : Hp} {ι : List Addr} {α : Nat → Addr} {σ : L2.St} {pins : List (Addr × Obj)} {s : Shared} {l : Addr} {vs : List V} {xs ks : List D} {d : D} {Q : VK}
    (g : Good p N sc fn (k + 1) X) (K : FnG p k fa fd prm gf) (hbn : Binds p.K fd prm []) (R : Rel p Pr ρ S F ι α σ H) (I : Inv X pins σ H s) (hl : SqL X.K H l vs) (rs : Reps p.K F ι vs xs)
    (ek : keysG (fun d => gf [d] S) S xs = some ks) (es : sortByD xs ks = some d)
    (q : ∀ c F' ι' H', Rel p Pr ρ S F' ι' α σ H' → LeH F F' → LeA ι ι' → Fr p Pr ρ F' ι' α H' c d → Q (.ref c) H') :
    wpAny (model X.prog X.w) X.A (call (.builtin "sorted") [.ref l] [(Str.ofString "key", .ref fa)]) (EP X pins σ Q) X.xe s := by
  have hK : X.K = p.K := g.K
  obtain ⟨its, rv, pl, hz⟩ := I.list hl
  obtain ⟨hkl, hka⟩ := keysG_at ek
  unfold sortByD at es
  split at es
  case isFalse => cases es
  rename_i hso
  obtain ⟨ok, _⟩ := hso
  cases es
  have okA : okAll ks = true := by unfold okSort at ok; rw [Bool.and_eq_true] at ok; exact ok.1
  obtain ⟨al, pn, dp⟩ := alikeAll_of okA
  have hvl : its.length = xs.length := by rw [← rv.length]; exact rs.length
  have hzl : its.length ≤ sizeLine := by rw [← rv.length]; exact hz
  refine PySem.W.sorted_of_sort pl.isList hzl (PyProof.Rows.ksk_s1 _ _) (fun _ => PyProof.Rows.ksk_l1 _ _) fun E' => ?_
  rw [PyProof.Rows.ksk_t1]
  generalize hA : s.heap.objs.size + 1 = A0
  have oA : (PySem.W.copyHeap s.heap its).get? A0 = some (seqObj "list" its.toArray 0) := by rw [← hA]; exact PySem.W.copyHeap_at _ _
  have hA0 : A0 < (PySem.W.copyHeap s.heap its).objs.size := Heap.lt_size oA
  have oldC : ∀ b o, s.heap.get? b = some o → (PySem.W.copyHeap s.heap its).get? b = some o := fun b o e => PySem.W.copyHeap_old e
  generalize PySem.W.copyHeap s.heap its = hc at *
  unfold ksk_tree
  refine wpAny_bind (listItems_at oA rfl ?_)
  refine wpAny_bind (listUpdate_at oA rfl ?_ (by rw [List.size_toArray]; exact hzl) (Nat.zero_le _))
  obtain ⟨e1, oA1⟩ : ∃ e1, (hc.update A0 (Obj.mapSeq fun _ => (#[] : Array Value))).get? A0 = some (seqObj "list" #[] e1) := ⟨_, get?_update_seq oA fun _ => #[]⟩
  refine wpAny_bind (seqEpoch_at oA1 rfl ?_)
  refine wpAny_bind (wpAny_newTuple ?_ (by show its.length ≤ _; exact hzl))
  refine wpAny_bind (wpAny_newList ?_ (Nat.zero_le _))
  refine wpAny_holding ?_
  have oldD : ∀ b o, s.heap.get? b = some o → (((hc.update A0 (Obj.mapSeq fun _ => (#[] : Array Value))).push (seqObj "tuple" its.toArray 0)).push (seqObj "list" #[] 0)).get? b = some o := fun b o e => by
    have hb : b ≠ A0 := by rw [← hA]; exact Nat.ne_of_lt (Nat.lt_succ_of_lt (Heap.lt_size e))
    exact Heap.get?_push_of_some _ (Heap.get?_push_of_some _ ((Heap.get?_update_ne _ _ _ _ hb).trans (oldC b o e)))
  have oA2 : (((hc.update A0 (Obj.mapSeq fun _ => (#[] : Array Value))).push (seqObj "tuple" its.toArray 0)).push (seqObj "list" #[] 0)).get? A0 = some (seqObj "list" #[] e1) := Heap.get?_push_of_some _ (Heap.get?_push_of_some _ oA1)
  have hKs : ((hc.update A0 (Obj.mapSeq fun _ => (#[] : Array Value))).push (seqObj "tuple" its.toArray 0)).objs.size = hc.objs.size + 1 := by rw [Heap.size_push, Heap.size_update]
  have oK : (((hc.update A0 (Obj.mapSeq fun _ => (#[] : Array Value))).push (seqObj "tuple" its.toArray 0)).push (seqObj "list" #[] 0)).get? ((hc.update A0 (Obj.mapSeq fun _ => (#[] : Array Value))).push (seqObj "tuple" its.toArray 0)).objs.size = some (seqObj "list" #[] 0) := Heap.get?_push_size _ rfl
  generalize hKS : ((hc.update A0 (Obj.mapSeq fun _ => (#[] : Array Value))).push (seqObj "tuple" its.toArray 0)).objs.size = kS at *
  have hKA : A0 < kS := by omega
  have hSA : s.heap.objs.size ≤ A0 := by omega
  show wpAny _ _ (ksk_rest A0 (.ref fa) false its.toArray e1 (.ref kS)) _ E' { s with heap := ((hc.update A0 (Obj.mapSeq fun _ => (#[] : Array Value))).push (seqObj "tuple" its.toArray 0)).push (seqObj "list" #[] 0) }
  generalize ((hc.update A0 (Obj.mapSeq fun _ => (#[] : Array Value))).push (seqObj "tuple" its.toArray 0)).push (seqObj "list" #[] 0) = h1 at *
  obtain ⟨nA1, nA2, nA3, nA4, nA5, nA6⟩ := Inv.newAt I hSA
  obtain ⟨nK1, nK2, nK3, nK4, nK5, nK6⟩ := Inv.newAt I (c := kS) (by omega)
  have I1 : Inv X ((A0, seqObj "list" #[] e1) :: (kS, seqObj "list" #[] 0) :: pins) σ H { s with heap := h1 } := by
    refine (I.kept (t' := s.toks) oldD).pins_of fun q hq => ?_
    rcases List.mem_cons.mp hq with rfl | hq
    · exact ⟨oA2, nA6, nA2, nA3, fun v z => by cases z⟩
    rcases List.mem_cons.mp hq with rfl | hq
    · exact ⟨oK, nK6, nK2, nK3, fun v z => by cases z⟩
    · exact (I.kept (t' := s.toks) oldD).pin q (List.mem_append_right _ hq)
  unfold ksk_rest
  refine wpAny_bind (wpAny_rule ?_)
  first
    | rw [List.forIn_toArray]
    | (rw [← Array.forIn_toList]; simp only [List.toList_toArray])
    | rw [← Array.forIn_toList]
  refine wpAny_bind (PyProof.Rows.ksk_fold (fun i s' => ∃ F' ι' H' kA e kvs, Inv X ((A0, seqObj "list" #[] e1) :: (kS, seqObj "list" kA e) :: pins) σ H' s' ∧ Rel p Pr ρ S F' ι' α σ H' ∧ LeH F F' ∧ LeA ι ι' ∧ Vals kvs kA.toList ∧ Reps p.K F' ι' kvs (ks.take i)) its 0 { s with heap := h1 }
    ⟨F, ι, H, #[], 0, [], I1, R, LeH.refl _, LeA.refl _, .nil, by rw [List.take_zero]; exact .nil⟩ ?step ?done)
  case step =>
    rintro j x s' hx ⟨F1, ι1, H1, kA, e, kvs, J, R1, l1, m1, rk, rq⟩
    simp only [Nat.zero_add] at rq ⊢
    have hj : j < its.length := (List.getElem?_eq_some_iff.mp hx).1
    have hjx : xs[j]? = some (xs[j]'(by omega)) := List.getElem?_eq_getElem _
    obtain ⟨y, hy, ey⟩ := hka j _ hjx
    have hjv : j < vs.length := by rw [rv.length]; exact hj
    obtain ⟨w', hw1, hw2⟩ := rv.get (List.getElem?_eq_getElem hjv)
    rw [hx] at hw1; cases hw1
    obtain ⟨dd, hd1, hd2⟩ := rs.of_at (List.getElem?_eq_getElem hjv)
    rw [hjx] at hd1; cases hd1
    have hkz : kA.size ≤ its.length := by
      have z1 : kvs.length = kA.toList.length := rk.length
      have z2 : kvs.length = (ks.take j).length := rq.length
      have z3 : kA.toList.length = kA.size := Array.length_toList
      have z4 : (ks.take j).length ≤ j := List.length_take_le _ _
      omega
    refine wpAny_bind (wpAny_attempt (wpAny_mono (go_fn2 (E := fun _ _ => False) (us := [x]) (vs := [vs[j]]) K hbn g J (.cons hw2 .nil) R1 (.cons (hd2.le l1 m1) .nil) ey fun v F' ι' H' R' l m rr => (⟨F', ι', R', l, m, rr⟩ : ∃ F' ι', Rel p Pr ρ S F' ι' α σ H' ∧ LeH F1 F' ∧ LeA ι1 ι' ∧ Rep p.K F' ι' v y)) (fun u s'' he => ?_) fun _ _ hF => hF.elim))
    obtain ⟨v, H2, J2, ru, F2, ι2, R2, l2, m2, rr⟩ := he
    dsimp only
    obtain ⟨pA, pA2, _⟩ := J2.pin (A0, seqObj "list" #[] e1) (List.mem_append_right _ (List.mem_cons_self ..))
    obtain ⟨pK, pK2, pK3, pK4, _⟩ := J2.pin (kS, seqObj "list" kA e) (List.mem_append_right _ (List.mem_cons_of_mem _ (List.mem_cons_self ..)))
    dsimp only at pA pA2 pK pK2 pK3 pK4
    have s1 := Heap.SameBut.update s''.heap kS (Obj.mapSeq (·.push u))
    obtain ⟨c2, hc2⟩ : ∃ c2, (s''.heap.update kS (Obj.mapSeq (·.push u))).get? kS = some (seqObj "list" (kA.push u) c2) := ⟨_, get?_update_seq pK (·.push u)⟩
    refine wpAny_bind (listUpdate_at pK rfl ?_ (Nat.le_trans hkz hzl) (Nat.le_trans (Nat.le_of_eq (Array.size_push ..)) (Nat.succ_le_succ (Nat.le_trans hkz hzl))))
    refine wpAny_pure ⟨rfl, F2, ι2, H2, kA.push u, c2, kvs ++ [v], ?_, R2, l1.trans l2, m1.trans m2, ?_, ?_⟩
    · have J3 : Inv X ((A0, seqObj "list" #[] e1) :: pins) σ H2 s'' := J2.pins_of fun q hq => J2.pin q (List.mem_append_right _ (by
        rcases List.mem_cons.mp hq with rfl | hq
        · exact List.mem_cons_self ..
        · exact List.mem_cons_of_mem _ (List.mem_cons_of_mem _ hq)))
      have J4 := J3.turned (it := kS) (t' := s''.toks) (h' := s''.heap.update kS (Obj.mapSeq (·.push u))) (fun b o hb e => (s1.2 b hb).trans e) pK2 nK2 (.inr nK1) nK4 (fun q hq => by
        rcases List.mem_append.mp hq with hq | hq
        · exact nK5 q (List.mem_append_left _ hq)
        · rcases List.mem_cons.mp hq with rfl | hq
          · exact Nat.ne_of_lt hKA
          · exact nK5 q (List.mem_append_right _ hq))
      refine J4.pins_of fun q hq => ?_
      rcases List.mem_cons.mp hq with rfl | hq
      · exact J4.pin _ (List.mem_append_right _ (List.mem_cons_self ..))
      rcases List.mem_cons.mp hq with rfl | hq
      · exact ⟨hc2, pK2, nK2, nK3, fun v z => by cases z⟩
      · exact J4.pin _ (List.mem_append_right _ (List.mem_cons_of_mem _ hq))
    · have ea : (kA.push u).toList = kA.toList ++ [u] := by simp
      rw [ea]
      exact rk.append (.cons ru .nil)
    · have ek' : ks.take (j + 1) = ks.take j ++ [y] := by rw [List.take_add_one, hy]; rfl
      rw [ek']
      exact (rq.le l2 m2).app (.cons rr .nil)
  case done =>
    rintro s' ⟨F1, ι1, H1, kA, e, kvs, J, R1, l1, m1, rk, rq⟩
    have e3 : ks.take (0 + its.length) = ks := List.take_of_length_le (by omega)
    rw [e3] at rq
    have hkl2 : kvs.length = ks.length := rq.length
    have hsz : kA.size = its.length := by
      have z1 : kvs.length = kA.toList.length := rk.length
      have z3 : kA.toList.length = kA.size := Array.length_toList
      omega
    obtain ⟨pA, pA2, _⟩ := J.pin (A0, seqObj "list" #[] e1) (List.mem_append_right _ (List.mem_cons_self ..))
    obtain ⟨pK, pK2, _⟩ := J.pin (kS, seqObj "list" kA e) (List.mem_append_right _ (List.mem_cons_of_mem _ (List.mem_cons_self ..)))
    dsimp only at pA pA2 pK pK2
    have J0 : Inv X pins σ H1 s' := J.pins_of fun q hq => J.pin q (List.mem_append_right _ (List.mem_cons_of_mem _ (List.mem_cons_of_mem _ hq)))
    obtain ⟨bs0, ra⟩ := Dp.readsAll J0 _ _ kA.toList (by rw [hK]; exact dps_of R1.wd.sub rq pn) rk
    have hk' : PySem.W.EachIs (fun v k => ∃ as, Reads s'.heap v k as) kA.toList (pys ks) := eachReads ra
    try dsimp only
    refine wpAny_bind (listItems_at pK rfl ?_)
    have hu : ∀ d ∈ pys ks, X.A.in1.in1.units + d.depth < cLine := fun d hd => by
      have hu := g.units
      have h2 : d.depth ≤ PyData.depthAll (pys ks) := by
        generalize pys ks = l at hd
        induction l with
        | nil => cases hd
        | cons x l ih =>
          rw [PyData.depthAll]
          rcases List.mem_cons.mp hd with e | h
          · rw [e]; exact Nat.le_max_left _ _
          · exact Nat.le_trans (ih h) (Nat.le_max_right _ _)
      show X.A.units + 1 + 1 + d.depth < cLine
      omega
    have SA := PySem.W.SortsAt.data (prog := X.prog) (w := X.w) (A := X.A.in1.in1) (s := s') hk' al.1 (sortable_of ok) hu
    refine PySem.W.keyH_end (κ := PySem.W.dataKind s'.heap (pys ks)) (h₁ := PySem.W.hideAll s'.heap [kS]) (fun b o hb e => PySem.W.of_hideAll _ e) (PySem.W.hideAll_none _ (List.mem_cons_self ..)) pK pA (Nat.ne_of_gt hKA) SA hsz hzl fun h' tk c kp oF => ?_
    have keep : ∀ b o, b ≠ A0 → b ≠ kS → s'.heap.get? b = some o → h'.get? b = some o := fun b o n1 n2 e => kp b o n1 (PySem.W.hideAll_get _ e (by simpa using n2))
    refine ⟨rfl, ?_⟩
    -- the items by keys
    have EO := PySem.W.keyedOut_each (R := fun u (b : (V × D) × D) => RelV b.1.1 u) (bs := (vs.zip xs).zip ks) (fun b => b.2.py) (rev := false) (vs := its) (out := PySem.W.sortVals (PySem.W.dataKind s'.heap (pys ks)) false kA.toList its) ?ko ?each
    case ko =>
      have e : ((vs.zip xs).zip ks).map (fun b => b.2.py) = pys ks := by
        rw [pys_map, show (fun b : (V × D) × D => b.2.py) = D.py ∘ (·.2) from rfl, ← List.map_map, List.map_snd_zip (by rw [List.length_zip]; have := rv.length; omega)]
      rw [e]
      exact ⟨s'.heap, kA.toList, al.1, rfl, hk'⟩
    case each =>
      have : ∀ {vs : List V} {xs ks : List D} {us : List Value}, vs.length = xs.length → ks.length = xs.length → Vals vs us → PySem.W.EachIs (fun u (b : (V × D) × D) => RelV b.1.1 u) us ((vs.zip xs).zip ks) := by
        intro vs xs ks us h1 h2 rv
        induction rv generalizing xs ks with
        | nil => exact .nil
        | cons a r ih =>
          cases xs with
          | nil => cases h1
          | cons x xs =>
            cases ks with
            | nil => cases h2
            | cons k ks => exact .cons a (ih (Nat.succ.inj h1) (Nat.succ.inj h2))
      exact this rs.length hkl rv
    generalize PySem.W.sortVals (PySem.W.dataKind s'.heap (pys ks)) false kA.toList its = out at EO oF
    generalize hsb : ((vs.zip xs).zip ks).mergeSort (PySem.W.dataLe false fun b : (V × D) × D => b.2.py) = sb at EO
    have ov : Vals (sb.map fun b => b.1.1) out := by
      clear oF hsb
      induction EO with
      | nil => exact .nil
      | cons a _ ih => exact .cons a ih
    have hsb2 : sb.map (fun b => b.1.2) = ((xs.zip ks).mergeSort fun a b => leD a.2 b.2).map (·.1) := by
      have e : ((vs.zip xs).zip ks).map (fun b => (b.1.2, b.2)) = xs.zip ks := by
        have : ∀ {vs : List V} {xs ks : List D}, vs.length = xs.length → ((vs.zip xs).zip ks).map (fun b => (b.1.2, b.2)) = xs.zip ks := by
          intro vs
          induction vs with
          | nil => intro xs ks h; cases xs with
            | nil => rfl
            | cons _ _ => cases h
          | cons v vs ih =>
            intro xs ks h
            cases xs with
            | nil => cases h
            | cons x xs =>
              cases ks with
              | nil => rfl
              | cons k ks => simp only [List.zip_cons_cons, List.map_cons]; rw [ih (Nat.succ.inj h)]
        exact this rs.length
      rw [← e, ← PySem.W.sort_maps (r := PySem.W.dataLe false fun b : (V × D) × D => b.2.py) (fun b : (V × D) × D => (b.1.2, b.2)) (fun a _ b _ => by rw [PySem.W.dataLe_eq]; rfl), List.map_map, ← hsb]
      rfl
    have rmem : ∀ b ∈ sb, Rep p.K F1 ι1 b.1.1 b.1.2 := fun b hb => by
      rw [← hsb] at hb
      have h1 := (List.mergeSort_perm _ _).mem_iff.mp hb
      have h2 : b.1 ∈ vs.zip xs := (List.of_mem_zip h1).1
      exact (reps_zip rs b.1 h2).le l1 m1
    have rout : Reps p.K F1 ι1 (sb.map fun b => b.1.1) (((xs.zip ks).mergeSort fun a b => leD a.2 b.2).map (·.1)) := by
      rw [← hsb2]
      clear ov hsb hsb2 EO
      induction sb with
      | nil => exact .nil
      | cons b sb ih => exact .cons (rmem b List.mem_cons_self) (ih fun c hc => rmem c (List.mem_cons_of_mem _ hc))
    generalize sb.map (fun b => b.1.1) = ws at ov rout
    have wl : ws.length ≤ sizeLine := by
      have := rout.length
      rw [List.length_map, List.length_mergeSort, List.length_zip] at this
      omega
    have lowA : ∀ b u, H1 b = some u → b ≠ A0 ∧ b ≠ kS := fun b u e => ⟨fun z => (by rw [z, pA2] at e; cases e), fun z => (by rw [z, pK2] at e; cases e)⟩
    have J9 : Inv X pins σ (upd H1 A0 (.lst ws)) { s' with heap := h', toks := tk } := by
      refine J0.step (g' := s'.gens) (d' := s'.drawn) (ch := [A0, kS]) (fun b hb => ?_) (fun b o _ _ hc e _ => keep b o (fun z => hc (by simp [z])) (fun z => hc (by simp [z])) e) (fun b o _ _ hc e _ => ⟨o.slots, keep b o (fun z => hc (by simp [z])) (fun z => hc (by simp [z])) e⟩) (fun b o hc e n => by rw [upd_ne (fun z => hc (by simp [z]))]; exact n)
        (fun b o hc e => ⟨o, keep b o (fun z => hc (by simp [z])) (fun z => hc (by simp [z])) e⟩) (fun b xs e => by rw [upd_ne (lowA b _ e).1]; exact e) (fun b o u e => by rw [upd_ne (lowA b _ e).1]; exact e) (fun b ps e => ⟨#[], by rw [upd_ne (lowA b _ e).1, e]; simp⟩) (fun m hm => ?_) (fun b u e => ?_) J0.bare
      · rcases List.mem_cons.mp hb with rfl | hb
        · exact ⟨.inr nA1, nA2, nA4, nA5⟩
        · have : b = kS := by simpa using hb
          subst this
          exact ⟨.inr nK1, nK2, nK4, nK5⟩
      · obtain ⟨o, es, ep, ho, r⟩ := hm
        exact ⟨o, es, ep, keep _ o (Ne.symm nA2) (Ne.symm nK2) ho, r⟩
      · by_cases hb : b = A0
        · subst hb
          rw [upd_same] at e; cases e
          exact ⟨wl, out, c, ov, oF⟩
        · rw [upd_ne hb] at e
          refine (J0.hok b u e).stay (fun c v hc q => ?_) (fun c q => by rw [upd_ne (lowA c _ q).1]; exact q) fun c xs q => by rw [upd_ne (lowA c _ q).1]; exact q
          rcases hc with rfl | hc
          · exact keep _ _ hb (lowA _ _ e).2 q
          · exact keep _ _ (lowA _ _ hc).1 (lowA _ _ hc).2 q
    obtain ⟨R9, f9⟩ := R1.alloc (d := .lst (((xs.zip ks).mergeSort fun a b => leD a.2 b.2).map (·.1))) (o := .lst ws) pA2 fun G g => ⟨ws, g, rout⟩
    exact ⟨.ref A0, _, J9, rfl, q A0 F1 ι1 _ R9 l1 m1 f9⟩
theorem fn_skey {kp : Pos} {pp fp : Pos} {x f : Str} (g : Good p N sc fn (k + 1) X) (gf : GoodF p k G) (hx : x = "sorted") (hg : sc.names.lookup x = some .globalImplicit) (hm : p.mg x = none) (hf : sc.names.lookup f = some .globalImplicit) (hfd : (f == ("__debug__" : Str)) = false) (h0 : isStar ea = false)
    (ha : FH p X ρ S ea (hOf a ρ S (evE G a ρ S))) : FN p X ρ S (.Call (.Name x pp) [ea] [⟨some "key", .Name f fp, kp⟩] pos) (evE G (.skey f a) ρ S) := by
  intro Pr F ι α σ H R d S' e Q q pins s I
  rw [evE] at e
  obtain ⟨⟨w, S1⟩, e1, e⟩ := Option.bind_eq_some_iff.mp e
  obtain ⟨u, e2, e⟩ := Option.bind_eq_some_iff.mp e
  obtain ⟨z, zs, rfl, ks, e3, e4, rfl⟩ : ∃ z zs, u = .lst (z :: zs) ∧ ∃ ks, keysG (fun d => G.fn (f, none) [d] S1) S1 (z :: zs) = some ks ∧ sortByD (z :: zs) ks = some d ∧ S1 = S' := by
    cases u <;> try cases e
    rename_i xs
    cases xs with
    | nil => cases e
    | cons z zs =>
      obtain ⟨ks, e3, e⟩ := Option.bind_eq_some_iff.mp e
      obtain ⟨d', e4, e5⟩ := Option.map_eq_some_iff.mp e
      cases e5
      exact ⟨z, zs, rfl, ks, e3, e4, rfl⟩
  obtain ⟨y, _, ey⟩ := (keysG_at e3).2 0 z rfl
  obtain ⟨fa, fd, prm, hfa, kp2, bd, K⟩ := gf.fn f _ _ _ ey
  have hG : Gl X x := by show X.env.scope.names.lookup x = _; rw [g.sc]; exact hg
  have hM : X.mg x = none := by rw [← hm, ← g.pg]; rfl
  have hGf : Gl X f := by show X.env.scope.names.lookup f = _; rw [g.sc]; exact hf
  have hMf : X.mg f = some (.ref fa) := by rw [← hfa, ← g.pg]; rfl
  subst hx
  refine wpAny_Call_Name_kw (ld_blt I hG hM (show bootBuiltins ("sorted" : Str) = some (.builtin "sorted") by decide +kernel) ?_ (by decide) (by decide))
  refine PyProof.Rows.callWith_kw ?_ (by rw [star_cons h0]; rfl) (by rw [star_cons h0]; rfl) rfl rfl
  rw [star_cons h0]
  show wpAny _ _ (spliced ((false, eval ea X.env) :: backTo pos (starEach [] X.env))) _ _ s
  refine Calls.spliced_cons ?_
  have wa := ha Pr F ι α σ H R w S1 e1 (fun x H' => ∃ F' ι', Rel p Pr ρ S1 F' ι' α σ H' ∧ LeH F F' ∧ LeA ι ι' ∧ HRep p F' ι' α x w) fun x F' ι' H' R' l m r => ⟨F', ι', R', l, m, r⟩
  refine thn (wa pins s I) fun u s1 hx => ?_
  obtain ⟨x, H1, I1, rx, F1, ι1, R1, l1, m1, r1⟩ := hx
  refine Calls.spliced_nil ?_
  refine PyProof.Rows.kwAll_cons ?_
  refine ld_glob I1 hGf hMf ?_ hfd
  refine PyProof.Rows.kwAll_nil ?_
  obtain ⟨l, vs, rfl, q1, q2⟩ := cv_of R1 r1 e2
  obtain rfl : u = Value.ref l := rx
  have hq1 : SqL X.K H1 l vs := by rw [g.K]; exact q1
  exact skey_core g K bd R1 I1 hq1 q2 e3 e4 fun c F' ι' H' R' l' m' fr => q c F' ι' H' R' (l1.trans l') (m1.trans m') fr
end
end Z

set_option Elab.async false
set_option linter.all false
set_option maxRecDepth 100000
set_option maxHeartbeats 4000000
namespace Z
open PySem PySem.Spec PyProof.Rows L2
/-! # sorted(d), max(d) of a dict whose keys are tuples -/
section
variable {p : Pg} {N : List Str} {sc : Scope} {fn : Str → Bool} {k : Nat} {X : Cx} {G : Fns} {ρ : Env'} {S : Store} {ea eb : Expr} {pos : Pos} {a b : Ex}
theorem keys_vals {es : Array DictEntry} {its : List (V × V)} {acc : Array Value} (hpl : its.length = es.size) (hpv : ∀ (j : Nat) (hj : j < es.size) (q : V × V), its[j]? = some q → RelV q.1 es[j].key ∧ RelV q.2 es[j].val)
    (hl : acc.toList.length = es.size) (ha : ∀ (i : Nat) (v : Value), acc.toList[i]? = some v → ∃ hi : i < es.size, v = es[i].key) : Vals (its.map (·.1)) acc.toList := by
  have : ∀ (l : List (V × V)) (m : List Value), l.length = m.length → (∀ (j : Nat) (q : V × V) (v : Value), l[j]? = some q → m[j]? = some v → RelV q.1 v) → Vals (l.map (·.1)) m := by
    intro l
    induction l with
    | nil => intro m e h; cases m with
      | nil => exact .nil
      | cons _ _ => cases e
    | cons q l ih =>
      intro m e h
      cases m with
      | nil => cases e
      | cons v m => exact .cons (h 0 q v rfl rfl) (ih m (Nat.succ.inj e) fun j q v h1 h2 => h (j + 1) q v (by simpa using h1) (by simpa using h2))
  refine this its acc.toList (by omega) fun j q v h1 h2 => ?_
  obtain ⟨hi, rfl⟩ := ha j v h2
  exact (hpv j hi q h1).1
theorem srt_core {Pr F H : Hp} {ι : List Addr} {α : Nat → Addr} {σ : L2.St} {pins : List (Addr × Obj)} {s : Shared} {ad : Addr} {es : Array DictEntry} {ep : Nat} {its : List (V × V)} {ds : List (D × D)} {Q : VK}
    (g : Good p N sc fn k X) (R : Rel p Pr ρ S F ι α σ H) (I : Inv X pins σ H s) (rd : RawD p s.heap F ι ad es ep its ds) (ok : okSort (ds.map (·.1)) = true)
    (q : ∀ c F' H', Rel p Pr ρ S F' ι α σ H' → LeH F F' → Fr p Pr ρ F' ι α H' c (.lst (sortD (ds.map (·.1)))) → Q (.ref c) H') :
    wpAny (model X.prog X.w) X.A (call (.builtin "sorted") [.ref ad]) (EP X pins σ Q) X.xe s := by
  have hK : X.K = p.K := g.K
  generalize hds : ds.map (·.1) = ks at *
  have okA : okAll ks = true := by unfold okSort at ok; rw [Bool.and_eq_true] at ok; exact ok.1
  obtain ⟨al, pn, dp⟩ := alikeAll_of okA
  have rk : Reps p.K F ι (its.map (·.1)) ks := by rw [← hds]; exact rd.keys
  generalize hvs : its.map (·.1) = vs at *
  refine PySem.Calls.call_function_entry kind_sorted plain_sorted entry_sorted (args_sorted1 _) ?_
  unfold Builtin.«sorted»
  refine wpAny_bind (m := checkCount "sorted" 1 1 _) (wpAny_pure ?_)
  refine wpAny_bind (PySem.W.kdu_collect (A := X.A.in1) (KdlSrc.rawDict rd.sys) (I.ok.hd g.calm) rd.raw rd.sz fun h' tk acc hk hacc => ?_)
  have hl : acc.toList.length = es.size := by rw [Array.length_toList]; exact hacc.1
  have hsz := rd.sz
  refine wpAny_bind (wpAny_newList ?_ (by rw [hl]; exact hsz))
  have I' : Inv X pins σ H { s with heap := h', toks := tk } := I.kept hk
  have newB : H h'.objs.size = none := I'.hok.fresh (Nat.le_refl _)
  have rv : Vals vs acc.toList := by
    rw [← hvs]
    exact keys_vals rd.len rd.at_ hl fun i v e => hacc.2 i v (by rw [← Array.getElem?_toList]; exact e)
  generalize acc.toList = its' at *
  obtain ⟨as, ra⟩ := Dp.readsAll I' _ _ its' (by rw [hK]; exact dps_of R.wd.sub rk pn) rv
  have hm : (vs.zip ks).map (fun b => b.2.py) = pys ks := by
    rw [pys_map, show (fun b : V × D => b.2.py) = D.py ∘ (·.2) from rfl, ← List.map_map, zip_snd rk.length]
  have hlen : (vs.zip ks).length = its'.length := by rw [List.length_zip, ← rk.length, rv.length]; omega
  have oB : (h'.push { cls := .type "list", data := .seq its'.toArray }).get? h'.objs.size = some (seqObj "list" its'.toArray 0) := Heap.get?_push_size _ rfl
  have e0 : PySem.W.EachIs (fun u (b : V × D) => RelV b.1 u) its' (vs.zip ks) := EachR rk rv
  have e1 : PySem.W.EachIs (fun u (b : V × D) => ∃ as, Reads h' u b.2.py as) its' (vs.zip ks) := EachD rk.length ra
  generalize hB : h'.objs.size = B at newB oB ⊢
  have old : ∀ b o, h'.get? b = some o → (PySem.W.sortingHeap (h'.push { cls := .type "list", data := .seq its'.toArray }) B its').get? b = some o := fun b o e => PySem.W.sortingHeap_old (fun z => by rw [z, ← hB] at e; exact absurd (Heap.lt_size e) (Nat.lt_irrefl _)) (Heap.get?_push_of_some _ e)
  have er' : PySem.W.EachIs (fun v (b : V × D) => ∃ as, Reads (PySem.W.sortingHeap (h'.push { cls := .type "list", data := .seq its'.toArray }) B its') v b.2.py as) its' (vs.zip ks) := e1.mono fun _ _ ⟨as, r⟩ => ⟨as, Reads.keeps old r⟩
  have room : ∀ b ∈ vs.zip ks, X.A.in1.in1.units + b.2.py.depth < cLine := fun b hb => by
    have hu := g.units
    have h1 : b.2.py ∈ pys ks := by rw [← hm]; exact List.mem_map_of_mem (f := fun b : V × D => b.2.py) hb
    have h2 : b.2.py.depth ≤ PyData.depthAll (pys ks) := by
      generalize pys ks = l at h1
      generalize b.2.py = z at h1
      induction l with
      | nil => cases h1
      | cons x l ih =>
        rw [PyData.depthAll]
        rcases List.mem_cons.mp h1 with e | h
        · rw [e]; exact Nat.le_max_left _ _
        · exact Nat.le_trans (ih h) (Nat.le_max_right _ _)
    show X.A.units + 1 + 1 + b.2.py.depth < cLine
    omega
  have hal : PySem.W.AllAlike ((vs.zip ks).map fun b => b.2.py) := by rw [hm]; exact al.1
  refine wpAny_bind (wpAny_holding (wpAny_call_entry_kw slot_list_sort ⟨_, oB, rfl⟩ entry_list_sort (PySem.W.list_sort_vals (A := X.A.in1.in1) (s := { s with heap := h'.push { cls := .type "list", data := .seq its'.toArray }, toks := tk }) oB
    (PySem.W.SortsAt.data (s := { s with heap := PySem.W.sortingHeap (h'.push { cls := .type "list", data := .seq its'.toArray }) B its', toks := tk }) (PySem.W.each_map (R := fun v d => ∃ as, Reads (PySem.W.sortingHeap (h'.push { cls := .type "list", data := .seq its'.toArray }) B its') v d as) (fun b : V × D => b.2.py) er') hal (by rw [hm]; exact sortable_of ok) (PySem.W.bound_map (enc := fun b : V × D => b.2.py) room)) (by omega) ?_) (args_list_sort _)))
  refine ⟨_, rfl, wpAny_pure ⟨_, rfl, ?_⟩⟩
  have eo := PySem.W.sortVals_data false e0 er' hal
  have ol := PySem.W.sortVals_length (κ := PySem.W.dataKind (PySem.W.sortingHeap (h'.push { cls := .type "list", data := .seq its'.toArray }) B its') ((vs.zip ks).map fun b => b.2.py)) (vs := its') false rfl
  generalize PySem.W.sortVals (PySem.W.dataKind (PySem.W.sortingHeap (h'.push { cls := .type "list", data := .seq its'.toArray }) B its') ((vs.zip ks).map fun b => b.2.py)) false its' its' = out at eo ol ⊢
  obtain ⟨e2, hB2⟩ := sortedHeap_at (vs := its') (out := out.toArray) oB
  have keepF : ∀ b o, h'.get? b = some o → (sortedHeap (h'.push { cls := .type "list", data := .seq its'.toArray }) B its' out.toArray).get? b = some o := fun b o e1 => by
    have lt := Heap.lt_size e1
    rw [sortedHeap_old (fun z => by rw [z, ← hB] at lt; exact Nat.lt_irrefl _ lt) (by rw [Heap.size_push]; exact Nat.lt_succ_of_lt lt)]
    exact Heap.get?_push_of_some _ e1
  have hs : ((vs.zip ks).mergeSort (PySem.W.dataLe false fun b : V × D => b.2.py)).map (·.2) = sortD ks := by
    unfold sortD
    rw [PySem.W.sort_maps (s := leD) (f := fun b : V × D => b.2), zip_snd rk.length]
    intro x _ y _
    rw [PySem.W.dataLe_eq]
    rfl
  have rl : Reps p.K F ι (((vs.zip ks).mergeSort (PySem.W.dataLe false fun b : V × D => b.2.py)).map (·.1)) (sortD ks) := by
    rw [← hs]
    exact reps_of fun b hb => reps_zip rk b ((List.mergeSort_perm _ _).mem_iff.mp hb)
  have hz2 : (((vs.zip ks).mergeSort (PySem.W.dataLe false fun b : V × D => b.2.py)).map (·.1)).length ≤ sizeLine := by
    rw [List.length_map, List.length_mergeSort, hlen]; omega
  have J := I'.laid (a := B) (o := .lst (((vs.zip ks).mergeSort (PySem.W.dataLe false fun b : V × D => b.2.py)).map (·.1))) (t' := tk) keepF (Nat.le_of_eq hB) ⟨hz2, out, e2, vals_of_each eo, hB2⟩
  obtain ⟨R9, f9⟩ := R.alloc (d := .lst (sortD ks)) (o := .lst (((vs.zip ks).mergeSort (PySem.W.dataLe false fun b : V × D => b.2.py)).map (·.1))) newB fun G g => ⟨_, g, rl⟩
  exact ⟨.ref B, _, J, rfl, q B _ _ R9 (LeH.refl _) f9⟩
theorem mx_core {Pr F H : Hp} {ι : List Addr} {α : Nat → Addr} {σ : L2.St} {pins : List (Addr × Obj)} {s : Shared} {ad : Addr} {es : Array DictEntry} {ep : Nat} {its : List (V × V)} {ds : List (D × D)} {Q : VK}
    (g : Good p N sc fn k X) (R : Rel p Pr ρ S F ι α σ H) (I : Inv X pins σ H s) (rd : RawD p s.heap F ι ad es ep its ds) {x : D} {xs : List D} (hks : ds.map (·.1) = x :: xs) (ok : okAll (x :: xs) = true) (nc : nocs (x :: xs) = true)
    (q : ∀ z, Rep p.K F ι z (maxD x xs) → Q z H) :
    wpAny (model X.prog X.w) X.A (call (.builtin "max") [.ref ad]) (EP X pins σ Q) X.xe s := by
  have hK : X.K = p.K := g.K
  have hp : X.pg p.cls p.con = p := g.pg
  obtain ⟨al, pn, dp⟩ := alikeAll_of ok
  have rk : Reps p.K F ι (its.map (·.1)) (x :: xs) := by rw [← hks]; exact rd.keys
  have kat : ∀ (i : Nat) (v : Value), (∃ hi : i < es.size, v = es[i].key) ↔ (es.map (·.key))[i]? = some v := fun i v => by
    rw [Array.getElem?_map]
    constructor
    · rintro ⟨hi, rfl⟩
      rw [Array.getElem?_eq_getElem hi]; rfl
    · intro e
      obtain ⟨u, h1, rfl⟩ := Option.map_eq_some_iff.mp e
      obtain ⟨hi, rfl⟩ := Array.getElem?_eq_some_iff.mp h1
      exact ⟨hi, rfl⟩
  have rv : Vals (its.map (·.1)) (es.map (·.key)).toList := keys_vals rd.len rd.at_ (by simp) fun i v e => (kat i v).mpr (by rw [← Array.getElem?_toList]; exact e)
  obtain ⟨as, ra⟩ := Dp.readsAll I _ _ _ (by rw [hK]; exact dps_of R.wd.sub rk pn) rv
  obtain ⟨m1, m2, m3⟩ := plain_maxD xs x fun d hd => plains_mem pn d hd
  have pl : (pys xs).length = xs.length := by rw [pys_map, List.length_map]
  have hn : es.size = xs.length + 1 := by
    have h1 := rk.length
    have h2 := rd.len
    rw [List.length_map, List.length_cons] at h1
    omega
  rw [pys] at ra al dp
  have hu := g.units
  have hh := I.ok.hd g.calm
  refine PySem.call_max_walkH ?_
  obtain ⟨oI, St, hit, W, st⟩ := (KdlSrc.rawDict (prog := X.prog) (w := X.w) (ep := ep) (es := es) rd.sys).iter X.A.in1 s hh rd.raw
  refine hit _ _ ⟨s.heap.objs.size, _, _, _, es.size, _, _, s.heap, _, rfl, W.toS, st, fun b hb => ?_, by omega, fun b o e hm => ?_, fun b o e => Heap.get?_push_of_some _ e, fun i j vi vj s' Q E hk hi hj hq => PySem.W.cmpIn_gt (A := X.A.in1) ra al (by show X.A.units + 1 + _ < _; omega) i j vi vj s' Q E hk ((kat _ _).mp hi) ((kat _ _).mp hj) hq, fun v s' hP hm => ?_⟩
  · show b < (s.heap.push oI).objs.size
    rw [size_push']
    rcases List.mem_cons.mp hb with e | hb
    · rw [e]; exact Nat.lt_succ_self _
    · rw [List.mem_singleton.mp hb]; exact Nat.lt_succ_of_lt rd.raw.lt_size
  · rw [List.mem_singleton.mp hm] at e
    exact absurd (Heap.lt_size e) (Nat.lt_irrefl _)
  · have hk : ∀ b o, s.heap.get? b = some o → s'.heap.get? b = some o := fun b o e =>
      hm.heap b o (fun hI => absurd (Heap.lt_size e) (by rw [List.mem_singleton.mp hI]; exact Nat.lt_irrefl _)) (Heap.get?_push_of_some _ e)
    rw [Moved.eq_with hm]
    have hP' := (kat _ _).mp hP
    obtain ⟨bs, r, _, _, _⟩ := PySem.W.readsAll_atA ra _ v hP'
    have e1 : es.size - 1 = xs.length := by omega
    have e2 := (PySem.W.argBest_fold (fun a b => PySem.W.dataLt b a) PyData.none x.py (pys xs) xs.length (by omega)).2
    rw [← pl, List.take_length, pl] at e2
    rw [e1] at r
    have rr : Reads s'.heap v (maxD x xs).py bs := PySem.W.reads_keeps hk (by rw [m2]; unfold PySem.W.maxD; rw [← e2]; exact r)
    obtain ⟨z, z1, z2⟩ := item_is hp I R.wd.sub rk rv ok nc m3 (i := PySem.argBest (fun i j => PySem.W.dataLt ((x.py :: pys xs).getD j .none) ((x.py :: pys xs).getD i .none)) (es.size - 1)) (by rw [Array.getElem?_toList]; exact hP') rr hk
    exact ⟨z, H, I.kept hk, z1, q z z2⟩
theorem fn_sdt {pp : Pos} {x : Str} (g : Good p N sc fn k X) (hx : x = "sorted") (hg : sc.names.lookup x = some .globalImplicit) (hm : p.mg x = none) (h0 : isStar ea = false)
    (ha : FH p X ρ S ea (hOf a ρ S (evE G a ρ S))) : FN p X ρ S (.Call (.Name x pp) [ea] [] pos) (evE G (.sdt a) ρ S) := by
  intro Pr F ι α σ H R d S' e Q q pins s I
  rw [evE] at e
  obtain ⟨⟨w, S1⟩, e1, e⟩ := Option.bind_eq_some_iff.mp e
  obtain ⟨u, e2, e⟩ := Option.bind_eq_some_iff.mp e
  obtain ⟨d', e5, e6⟩ := Option.map_eq_some_iff.mp e
  cases e6
  have hG : Gl X x := by show X.env.scope.names.lookup x = _; rw [g.sc]; exact hg
  have hM : X.mg x = none := by rw [← hm, ← g.pg]; rfl
  subst hx
  refine wpAny_Call_Name_kw (ld_blt I hG hM (show bootBuiltins ("sorted" : Str) = some (.builtin "sorted") by decide +kernel) ?_ (by decide) (by decide))
  refine PyProof.Rows.callWith_builtin1 ?_ (star_cons h0) rfl
  rw [star_cons h0]
  show wpAny _ _ (spliced ((false, eval ea X.env) :: backTo pos (starEach [] X.env))) _ _ s
  refine Calls.spliced_cons ?_
  have wa := ha Pr F ι α σ H R w S1 e1 (fun x H' => ∃ F' ι', Rel p Pr ρ S1 F' ι' α σ H' ∧ LeH F F' ∧ LeA ι ι' ∧ HRep p F' ι' α x w) fun x F' ι' H' R' l m r => ⟨F', ι', R', l, m, r⟩
  refine thn (wa pins s I) fun u1 s1 hx => ?_
  obtain ⟨x, H1, I1, rx, F1, ι1, R1, l1, m1, r1⟩ := hx
  refine Calls.spliced_nil ?_
  have cv := cv_of R1 r1 e2
  cases u <;> try cases e5
  rename_i fs
  obtain ⟨ad, kvs, rfl, q1, q2, q3⟩ := cv
  obtain ⟨F2, es, ep, its, gr, rd⟩ := raw_dT (fs := fs) R1 I1 q1 ⟨q2, q3⟩
  have e5 : sortedD (fs.map fun e => dT1 e.1) = some d := e5
  unfold sortedD at e5
  split at e5
  case isFalse => cases e5
  rename_i ok
  cases e5
  obtain rfl : u1 = Value.ref ad := rx
  have hm : (fs.map fun e => (dT1 e.1, e.2)).map (·.1) = fs.map fun e => dT1 e.1 := by rw [List.map_map]; rfl
  refine srt_core g (R1.grow gr) I1 rd (by rw [hm]; exact ok) fun c F' H' R' l f => ?_
  rw [hm] at f
  exact q c F' ι1 H' R' ((l1.trans gr.f).trans l) m1 f
theorem fe_mdt {pp : Pos} {x : Str} (g : Good p N sc fn k X) (hx : x = "max") (hg : sc.names.lookup x = some .globalImplicit) (hm : p.mg x = none) (h0 : isStar ea = false)
    (ha : FH p X ρ S ea (hOf a ρ S (evE G a ρ S))) : FE p X ρ S (.Call (.Name x pp) [ea] [] pos) (evE G (.mdt a) ρ S) := by
  intro Pr F ι α σ H R d S' e Q q pins s I
  rw [evE] at e
  obtain ⟨⟨w, S1⟩, e1, e⟩ := Option.bind_eq_some_iff.mp e
  obtain ⟨u, e2, e⟩ := Option.bind_eq_some_iff.mp e
  obtain ⟨d', e5, e6⟩ := Option.map_eq_some_iff.mp e
  cases e6
  have hG : Gl X x := by show X.env.scope.names.lookup x = _; rw [g.sc]; exact hg
  have hM : X.mg x = none := by rw [← hm, ← g.pg]; rfl
  subst hx
  refine wpAny_Call_Name_kw (ld_blt I hG hM (show bootBuiltins ("max" : Str) = some (.builtin "max") by decide +kernel) ?_ (by decide) (by decide))
  refine PyProof.Rows.callWith_builtin1 ?_ (star_cons h0) rfl
  rw [star_cons h0]
  show wpAny _ _ (spliced ((false, eval ea X.env) :: backTo pos (starEach [] X.env))) _ _ s
  refine Calls.spliced_cons ?_
  have wa := ha Pr F ι α σ H R w S1 e1 (fun x H' => ∃ F' ι', Rel p Pr ρ S1 F' ι' α σ H' ∧ LeH F F' ∧ LeA ι ι' ∧ HRep p F' ι' α x w) fun x F' ι' H' R' l m r => ⟨F', ι', R', l, m, r⟩
  refine thn (wa pins s I) fun u1 s1 hx => ?_
  obtain ⟨x, H1, I1, rx, F1, ι1, R1, l1, m1, r1⟩ := hx
  refine Calls.spliced_nil ?_
  have cv := cv_of R1 r1 e2
  cases u <;> try cases e5
  rename_i fs
  obtain ⟨ad, kvs, rfl, q1, q2, q3⟩ := cv
  obtain ⟨F2, es, ep, its, gr, rd⟩ := raw_dT (fs := fs) R1 I1 q1 ⟨q2, q3⟩
  obtain rfl : u1 = Value.ref ad := rx
  have hm : (fs.map fun e => (dT1 e.1, e.2)).map (·.1) = fs.map fun e => dT1 e.1 := by rw [List.map_map]; rfl
  unfold mdtD at e5
  simp only at e5
  split at e5
  case h_2 => cases e5
  rename_i y ys hy
  split at e5
  case isFalse => cases e5
  rename_i ok
  cases e5
  rw [Bool.and_eq_true] at ok
  exact mx_core g (R1.grow gr) I1 rd (by rw [hm]; exact hy) ok.1 ok.2 fun z r => q z F2 ι1 H1 (R1.grow gr) (l1.trans gr.f) m1 r
end
end Z

set_option Elab.async false
set_option linter.all false
set_option maxRecDepth 100000
set_option maxHeartbeats 4000000
namespace Z
open PySem PySem.Spec PyProof.Rows L2
/-! # isinstance(x, str) of what is plain -/
theorem isStr_py (d : D) (h : d.plain = true) : d.py.isStr = isStrD d := by
  cases d <;> first | rfl | cases h
section
variable {p : Pg} {N : List Str} {sc : Scope} {fn : Str → Bool} {k : Nat} {X : Cx} {G : Fns} {ρ : Env'} {S : Store} {ea eb : Expr} {pos : Pos} {a b : Ex}
theorem fe_iss {pp sp : Pos} {x y : Str} (g : Good p N sc fn k X) (hx : x = "isinstance") (hy : y = "str") (hg : sc.names.lookup x = some .globalImplicit) (hm : p.mg x = none) (hg2 : sc.names.lookup y = some .globalImplicit) (hm2 : p.mg y = none) (h0 : isStar ea = false)
    (ha : FH p X ρ S ea (hOf a ρ S (evE G a ρ S))) : FE p X ρ S (.Call (.Name x pp) [ea, .Name y sp] [] pos) (evE G (.iss a) ρ S) := by
  intro Pr F ι α σ H R d S' e Q q pins s I
  rw [evE] at e
  obtain ⟨⟨w, S1⟩, e1, e⟩ := Option.bind_eq_some_iff.mp e
  obtain ⟨u, e2, e⟩ := Option.bind_eq_some_iff.mp e
  split at e
  case isFalse => cases e
  rename_i hpl
  cases e
  have hK : X.K = p.K := g.K
  have hG : Gl X x := by show X.env.scope.names.lookup x = _; rw [g.sc]; exact hg
  have hM : X.mg x = none := by rw [← hm, ← g.pg]; rfl
  have hG2 : Gl X y := by show X.env.scope.names.lookup y = _; rw [g.sc]; exact hg2
  have hM2 : X.mg y = none := by rw [← hm2, ← g.pg]; rfl
  subst hx
  subst hy
  refine wpAny_Call_Name_kw (ld_blt I hG hM (show bootBuiltins ("isinstance" : Str) = some (.builtin "isinstance") by decide +kernel) ?_ (by decide) (by decide))
  refine PyProof.Rows.callWith_builtin1 ?_ (star_cons h0) rfl
  rw [star_cons h0]
  show wpAny _ _ (spliced ((false, eval ea X.env) :: backTo pos (starEach [.Name "str" sp] X.env))) _ _ s
  refine Calls.spliced_cons ?_
  have wa := ha Pr F ι α σ H R w S1 e1 (fun x H' => ∃ F' ι', Rel p Pr ρ S1 F' ι' α σ H' ∧ LeH F F' ∧ LeA ι ι' ∧ HRep p F' ι' α x w) fun x F' ι' H' R' l m r => ⟨F', ι', R', l, m, r⟩
  refine thn (wa pins s I) fun u1 s1 hx => ?_
  obtain ⟨x, H1, I1, rx, F1, ι1, R1, l1, m1, r1⟩ := hx
  show wpAny _ _ (spliced (backTo pos ((false, eval (.Name "str" sp) X.env) :: starEach [] X.env))) _ _ s1
  refine Calls.spliced_cons ?_
  refine ld_blt I1 hG2 hM2 (show bootBuiltins ("str" : Str) = some (.type "str") by decide +kernel) ?_ (by decide) (by decide)
  refine Calls.spliced_nil ?_
  have cv := cv_of R1 r1 e2
  obtain ⟨as, rd⟩ := Dp.reads I1 _ _ _ (by rw [hK]; exact cv.dp R1.wd.sub hpl) rx
  refine PySem.W.isinstance_str_data rd fun tk _ => ?_
  rw [isStr_py u hpl]
  exact ⟨.bl _, H1, I1.kept (t' := tk) (fun b o e => e), rfl, q _ F1 ι1 H1 R1 l1 m1 (.bl _)⟩
theorem isTy_py0 (d : D) (h : d.plain = true) : d.py.isInt = isTyD 0 d := by
  cases d <;> first | rfl | cases h
theorem isTy_py1 (d : D) (h : d.plain = true) : d.py.isTuple = isTyD 1 d := by
  cases d <;> first | rfl | cases h
theorem isTy_py2 (d : D) (h : d.plain = true) : d.py.isList = isTyD 2 d := by
  cases d <;> first | rfl | cases h
def tyN : Nat → Str
  | 0 => "int"
  | 1 => "tuple"
  | _ => "list"
theorem fe_ist {pp sp : Pos} {x y : Str} {j : Nat} (g : Good p N sc fn k X) (hj : j ≤ 2) (hx : x = "isinstance") (hy : y = tyN j) (hg : sc.names.lookup x = some .globalImplicit) (hm : p.mg x = none) (hg2 : sc.names.lookup y = some .globalImplicit) (hm2 : p.mg y = none) (h0 : isStar ea = false)
    (ha : FH p X ρ S ea (hOf a ρ S (evE G a ρ S))) : FE p X ρ S (.Call (.Name x pp) [ea, .Name y sp] [] pos) (evE G (.ist j a) ρ S) := by
  intro Pr F ι α σ H R d S' e Q q pins s I
  rw [evE] at e
  obtain ⟨⟨w, S1⟩, e1, e⟩ := Option.bind_eq_some_iff.mp e
  obtain ⟨u, e2, e⟩ := Option.bind_eq_some_iff.mp e
  split at e
  case isFalse => cases e
  rename_i hpl
  cases e
  have hK : X.K = p.K := g.K
  have hG : Gl X x := by show X.env.scope.names.lookup x = _; rw [g.sc]; exact hg
  have hM : X.mg x = none := by rw [← hm, ← g.pg]; rfl
  have hG2 : Gl X y := by show X.env.scope.names.lookup y = _; rw [g.sc]; exact hg2
  have hM2 : X.mg y = none := by rw [← hm2, ← g.pg]; rfl
  subst hx
  refine wpAny_Call_Name_kw (ld_blt I hG hM (show bootBuiltins ("isinstance" : Str) = some (.builtin "isinstance") by decide +kernel) ?_ (by decide) (by decide))
  refine PyProof.Rows.callWith_builtin1 ?_ (star_cons h0) rfl
  rw [star_cons h0]
  show wpAny _ _ (spliced ((false, eval ea X.env) :: backTo pos (starEach [.Name y sp] X.env))) _ _ s
  refine Calls.spliced_cons ?_
  have wa := ha Pr F ι α σ H R w S1 e1 (fun x H' => ∃ F' ι', Rel p Pr ρ S1 F' ι' α σ H' ∧ LeH F F' ∧ LeA ι ι' ∧ HRep p F' ι' α x w) fun x F' ι' H' R' l m r => ⟨F', ι', R', l, m, r⟩
  refine thn (wa pins s I) fun u1 s1 hx => ?_
  obtain ⟨x, H1, I1, rx, F1, ι1, R1, l1, m1, r1⟩ := hx
  show wpAny _ _ (spliced (backTo pos ((false, eval (.Name y sp) X.env) :: starEach [] X.env))) _ _ s1
  refine Calls.spliced_cons ?_
  have cv := cv_of R1 r1 e2
  obtain ⟨as, rd⟩ := Dp.reads I1 _ _ _ (by rw [hK]; exact cv.dp R1.wd.sub hpl) rx
  obtain rfl | rfl | rfl : j = 0 ∨ j = 1 ∨ j = 2 := by omega
  · subst hy
    refine ld_blt I1 hG2 hM2 (show bootBuiltins ("int" : Str) = some (.type "int") by decide +kernel) ?_ (by decide) (by decide)
    refine Calls.spliced_nil ?_
    refine PySem.W.isinstance_int_data rd fun tk _ => ?_
    rw [isTy_py0 u hpl]
    exact ⟨.bl _, H1, I1.kept (t' := tk) (fun b o e => e), rfl, q _ F1 ι1 H1 R1 l1 m1 (.bl _)⟩
  · subst hy
    refine ld_blt I1 hG2 hM2 (show bootBuiltins ("tuple" : Str) = some (.type "tuple") by decide +kernel) ?_ (by decide) (by decide)
    refine Calls.spliced_nil ?_
    refine PySem.W.isinstance_tuple_data rd fun tk _ => ?_
    rw [isTy_py1 u hpl]
    exact ⟨.bl _, H1, I1.kept (t' := tk) (fun b o e => e), rfl, q _ F1 ι1 H1 R1 l1 m1 (.bl _)⟩
  · subst hy
    refine ld_blt I1 hG2 hM2 (show bootBuiltins ("list" : Str) = some (.type "list") by decide +kernel) ?_ (by decide) (by decide)
    refine Calls.spliced_nil ?_
    refine PySem.W.isinstance_list_data rd fun tk _ => ?_
    rw [isTy_py2 u hpl]
    exact ⟨.bl _, H1, I1.kept (t' := tk) (fun b o e => e), rfl, q _ F1 ι1 H1 R1 l1 m1 (.bl _)⟩
/-! # a text's join -/
theorem strsOf_reps {F : Hp} {ι : List Addr} {p : Pg} : ∀ {vs : List V} {ds : List D} {ys : List Str}, Reps p.K F ι vs ds → strsOf ds = some ys → vs = ys.map V.str
  | _, _, ys, .nil, e => by cases e; rfl
  | _, _, ys, .cons (d := d) a r, e => by
    cases d <;> try cases e
    rename_i x
    unfold strsOf at e
    obtain ⟨q, e1, e2⟩ := Option.map_eq_some_iff.mp e
    subst e2
    cases a
    rw [strsOf_reps r e1]
    rfl
theorem fe_join {x : Str} {kk : Nat} {cpos apos : Pos} (g : Good p N sc fn k X) (h0 : isStar ea = false) (hp : (apos.endLine == pos.line) = true) (ha : FH p X ρ S ea (hOf a ρ S (evE G a ρ S))) :
    FE p X ρ S (.Call (.Attribute (.Constant (.str x) kk cpos) "join" apos) [ea] [] pos) (evE G (.join x a) ρ S) := by
  intro Pr F ι α σ H R d S' e Q q
  rw [evE] at e
  obtain ⟨⟨w, S1⟩, e1, e⟩ := Option.bind_eq_some_iff.mp e
  obtain ⟨u, e2, e⟩ := Option.bind_eq_some_iff.mp e
  obtain ⟨d', e3, e4⟩ := Option.map_eq_some_iff.mp e
  cases e4
  cases u <;> try cases e3
  rename_i ds
  unfold joinD at e3
  obtain ⟨ys, e5, e6⟩ := Option.bind_eq_some_iff.mp e3
  split at e6
  case isFalse => cases e6
  rename_i hl
  cases e6
  refine wE_of (pe_join pe_str peW (by rw [star_cons h0]; rfl) rfl hp) ?_
  refine ⟨⟨x, rfl⟩, ha Pr F ι α σ H R _ _ e1 _ fun v F' ι' H' R' l m r => ?_⟩
  obtain ⟨b, vs, rfl, q1, q2⟩ := cv_of R' r e2
  have ev := strsOf_reps q2 e5
  subst ev
  exact ⟨x, b, ys, rfl, rfl, .inl (by rw [g.K]; exact q1), hl, q _ F' ι' H' R' l m (.str _)⟩
/-! # o.f += e -/
theorem fs_augf {eo : Expr} {o : Ex} {f : Str} {op : Operator} {tpos : Pos} (g : Good p N sc fn k X) (gf : FldOk p G) (ho : FE p X ρ S eo (evE G o ρ S)) (ha : ∀ S, FE p X ρ S ea (evE G a ρ S)) :
    FS p X ρ S (.AugAssign (.Attribute eo f tpos) op ea pos) (evS G (.augf o f op a) ρ S) := by
  intro Pr F ι α σ H R o' e D h
  rw [evS] at e
  obtain ⟨⟨u, S1⟩, e1, e⟩ := Option.bind_eq_some_iff.mp e
  cases u <;> try cases e
  rename_i n
  simp only at e
  split at e
  case h_2 => cases e
  rename_i C fs hc
  split at e
  case isFalse => cases e
  rename_i hf
  split at e
  case h_2 => cases e
  rename_i i hi
  obtain ⟨⟨y, S2⟩, e2, e⟩ := Option.bind_eq_some_iff.mp e
  simp only at e
  split at e
  case h_2 => cases e
  rename_i C' fs' hc' hX hE
  split at e
  case isFalse => cases e
  rename_i hCC
  subst hCC
  obtain ⟨S3, e3, e4⟩ := Option.map_eq_some_iff.mp e
  cases e4
  refine wS_of (ps_fldaug peW peW (rd := rI0 fun i j => V.int (i + j)) (fun pins s σ H x y u v Q I r1 r2 h => iop_add pins s σ H x y u v Q I r1 r2 h)) (ho Pr F ι α σ H R _ _ e1 _ fun x F1 ι1 H1 R1 l1 m1 r1 => ?_)
  obtain ⟨b, hb1, _, Ca, dx, fv, h1, h2, h3, h4⟩ := R1.wd.at hc
  have rx := r1
  cases r1 with
  | ref hn =>
    rw [hb1] at hn; cases hn
    obtain ⟨v, e5, rv⟩ := fs_lookup h3 h4 hi
    obtain ⟨c1, c2⟩ := gf.fld C' f Ca hf h1
    rw [← g.K] at c1 c2
    refine ⟨b, Ca, dx, fv, v, rfl, h2, c1, c2, e5, ha S1 Pr F1 ι1 α σ H1 R1 _ _ e2 _ fun y F2 ι2 H2 R2 l2 m2 r2 => ?_⟩
    cases rv
    cases r2
    obtain ⟨c, C2, dx2, fs2, ec, h6, h7, h8, h9, R3⟩ := setF_ok g gf R2 (rx.le l2 m2) (.int _) e3
    cases ec
    obtain ⟨b', hb', _, Ca', dx', fv', h1', h2', _, _⟩ := R2.wd.at hc'
    have rx2 := rx.le l2 m2
    cases rx2 with
    | ref hn2 =>
      rw [hb'] at hn2; cases hn2
      have ee : Ca' = Ca := Option.some.inj (h1'.symm.trans h1)
      rw [h2'] at h6
      cases h6
      rw [ee] at h2' R3
      refine ⟨_, _, rfl, rfl, ?_⟩
      exact ⟨_, _, h2', h9, h F2 ι2 α σ _ R3 (l1.trans l2) (m1.trans m2)⟩
/-! # a list's slice, new -/
theorem fn_lsl {eo : Expr} {lo hi : Option Expr} {al ah : Ar} {p2 : Pos} (g : Good p N sc fn k X) (ha : FH p X ρ S eo (hOf a ρ S (evE G a ρ S))) (hl : FO p X ρ lo (evA G al ρ)) (hh : FO p X ρ hi (evA G ah ρ)) :
    FN p X ρ S (.Subscript eo (.Slice lo hi none p2) pos) (evE G (.lsl a al ah) ρ S) := by
  intro Pr F ι α σ H R d S' e Q q
  rw [evE] at e
  obtain ⟨⟨h1, S1⟩, e1, e⟩ := Option.bind_eq_some_iff.mp e
  obtain ⟨⟨y, S2⟩, e2, e⟩ := Option.bind_eq_some_iff.mp e
  obtain ⟨⟨z, S3⟩, e3, e⟩ := Option.bind_eq_some_iff.mp e
  obtain ⟨u, e4, e⟩ := Option.bind_eq_some_iff.mp e
  obtain ⟨lo', e7, e⟩ := Option.bind_eq_some_iff.mp e
  obtain ⟨hi', e8, e⟩ := Option.bind_eq_some_iff.mp e
  obtain ⟨xs, rfl⟩ : ∃ xs, u = .lst xs := by
    cases u <;> first | exact ⟨_, rfl⟩ | cases e
  cases e
  obtain ⟨tl, pl, hl⟩ := hl
  obtain ⟨th, ph, hh⟩ := hh
  refine wE_of (pe_slice sl_list peW pl ph) (ha Pr F ι α σ H R _ _ e1 _ fun x F1 ι1 H1 R1 l1 m1 r1 => hl R1 e2 e7 _ fun F2 ι2 H2 R2 l2 m2 => hh R2 e3 e8 _ fun F3 ι3 H3 R3 l3 m3 => ?_)
  obtain ⟨b, vs, rfl, q1, q2⟩ := cv_of R3 ((r1.le l2 m2).le l3 m3) e4
  refine ⟨b, vs, rfl, by rw [g.K]; exact q1, fun c hc => ?_⟩
  obtain ⟨R4, f4⟩ := R3.alloc (d := .lst (cutL xs lo' hi')) (o := .lst (cutV vs lo' hi')) hc fun G g => ⟨_, g, q2.cut lo' hi'⟩
  exact q c F3 ι3 _ R4 ((l1.trans l2).trans l3) ((m1.trans m2).trans m3) f4
end
end Z

set_option Elab.async false
set_option linter.all false
set_option maxRecDepth 100000
set_option maxHeartbeats 4000000
namespace Z
open PySem PySem.Spec PyProof.Rows L2

/-! # the text and its short form -/
structure Tb where
  con : List (Str × GC)
  bn : List Str
structure TbOk (p : Pg) (T : Tb) : Prop where
  con : ∀ x g, (x, g) ∈ T.con → p.con x = some g.d
  bn : ∀ x, x ∈ T.bn → p.mg x = none
def dbg (x : Str) : Bool := !(x == ("__debug__" : Str)) && !(x == ("__classdict__" : Str))
def visB (sc : Scope) (x : Str) : Bool := match sc.names.lookup x with
  | some .local => true | some .cell => true | some .free => true
  | _ => false
def stB (sc : Scope) (fn : Str → Bool) (x : Str) : Bool := match sc.names.lookup x with
  | some .local => true
  | some .cell => fn x
  | _ => false
def glB (sc : Scope) (x : Str) : Bool := decide (sc.names.lookup x = some .globalImplicit) && dbg x
def cstB (c : Cst) (k : Const) : Bool := match c, k with
  | .non, .none => true | .bl b, .bool b' => decide (b = b') | .int i, .int i' => decide (i = i') | .str x, .str y => decide (x = y)
  | _, _ => false
def nmsB (N : List Str) (sc : Scope) (fn : Str → Bool) : List Nat → List Expr → Bool
  | [], [] => true
  | i :: is, e :: es => (match e with
    | .Name x _ => decide (N[i]? = some x) && stB sc fn x
    | _ => false) && nmsB N sc fn is es
  | _, _ => false
def tgB (N : List Str) (sc : Scope) (fn : Str → Bool) (t : Tg) (tg : Expr) : Bool := match t with
  | .nm i => (match tg with
    | .Name x _ => decide (N[i]? = some x) && stB sc fn x
    | _ => false)
  | .nms is => (match tg with
    | .Tuple es _ _ => nmsB N sc fn is es
    | _ => false)
def ownL (N : List Str) (t : Tg) : List (Str × Nat) := t.ix.map fun i => (N.getD i Str.empty, i)
def notSl : Expr → Bool
  | .Slice _ _ _ _ => false
  | _ => true
def isFr : Ex → Bool
  | .list _ => true
  | .dnew _ => true
  | .comp _ _ _ _ => true
  | .dcomp _ _ _ _ _ => true
  | .blt .list _ => true
  | .blt .sorted _ => true
  | .lrng _ _ => true
  | .dcst _ => true
  | .dmrg _ _ => true
  | .skey _ _ => true
  | .sitm _ => true
  | .sdt _ => true
  | .lsl _ _ _ => true
  | _ => false
def isB : CmpOp → Bool → Bool
  | .Is, n => !n
  | .IsNot, n => n
  | _, _ => false
mutual
def chkE (T : Tb) (N : List Str) : Scope → Ex → Expr → Bool
  | sc, .var i, e => (match e with
    | .Name x _ => decide (N[i]? = some x) && (visB sc x && dbg x)
    | _ => false)
  | sc, .cst c, e => (match e with
    | .Constant k _ _ => cstB c k
    | _ => false)
  | sc, .glb x g, e => (match e with
    | .Name y _ => decide (x = y) && (glB sc y && decide ((x, g) ∈ T.con))
    | _ => false)
  | sc, .bin o a b, e => (match e with
    | .BinOp ea o' eb _ => decide (o = o') && (chkE T N sc a ea && chkE T N sc b eb)
    | _ => false)
  | sc, .neg a, e => (match e with
    | .UnaryOp .USub ea _ => chkE T N sc a ea
    | _ => false)
  | sc, .not a, e => (match e with
    | .UnaryOp .Not ea _ => chkE T N sc a ea
    | _ => false)
  | sc, .and a b, e => (match e with
    | .BoolOp .And (ea :: eb :: es) pos => chkE T N sc a ea && (match es with
      | [] => chkE T N sc b eb
      | _ :: _ => chkE T N sc b (.BoolOp .And (eb :: es) pos))
    | _ => false)
  | sc, .or a b, e => (match e with
    | .BoolOp .Or (ea :: eb :: es) pos => chkE T N sc a ea && (match es with
      | [] => chkE T N sc b eb
      | _ :: _ => chkE T N sc b (.BoolOp .Or (eb :: es) pos))
    | _ => false)
  | sc, .ife c a b, e => (match e with
    | .IfExp ec ea eb _ => chkE T N sc c ec && (chkE T N sc a ea && chkE T N sc b eb)
    | _ => false)
  | sc, .cmp o a b, e => (match e with
    | .Compare ea [o'] [eb] _ => decide (o = o') && (noSet eb && (chkE T N sc a ea && chkE T N sc b eb))
    | _ => false)
  | sc, .chn o o' a b c, e => (match e with
    | .Compare ea [q, q'] [eb, ec] _ => decide (o = q) && (decide (o' = q') && (noSet ec && (chkE T N sc a ea && (chkE T N sc b eb && chkE T N sc c ec))))
    | _ => false)
  | sc, .iso n a b, e => (match e with
    | .Compare ea [o] [eb] _ => isB o n && (noSet eb && (chkE T N sc a ea && chkE T N sc b eb))
    | _ => false)
  | sc, .tup as, e => (match e with
    | .Tuple es _ _ => chkA T N sc as es
    | _ => false)
  | sc, .list as, e => (match e with
    | .List es _ => chkA T N sc as es
    | _ => false)
  | sc, .dnew _, e => (match e with
    | .Dict [] [] _ => true
    | _ => false)
  | _, .disp _ _, _ => false
  | sc, .idx a b, e => (match e with
    | .Subscript ea eb _ => notSl eb && (chkE T N sc a ea && chkE T N sc b eb)
    | _ => false)
  | sc, .sl a lo hi, e => (match e with
    | .Subscript ea (.Slice l h none _) _ => chkE T N sc a ea && (chkA T N sc lo l.toList && chkA T N sc hi h.toList)
    | _ => false)
  | sc, .lsl a lo hi, e => (match e with
    | .Subscript ea (.Slice l h none _) _ => chkE T N sc a ea && (chkA T N sc lo l.toList && chkA T N sc hi h.toList)
    | _ => false)
  | sc, .rev a, e => (match e with
    | .Subscript ea (.Slice none none (some (.UnaryOp .USub (.Constant (.int 1) _ _) _)) _) _ => chkE T N sc a ea
    | _ => false)
  | sc, .fld a f, e => (match e with
    | .Attribute ea f' _ => decide (f = f') && (noCall ea && chkE T N sc a ea)
    | _ => false)
  | sc, .call f as, e => (match e with
    | .Call (.Name x _) es [] _ => decide (f = x) && (glB sc x && chkA T N sc as es)
    | _ => false)
  | sc, .mk f as, e => (match e with
    | .Call (.Name x _) es [] _ => decide (f = x) && (glB sc x && chkA T N sc as es)
    | _ => false)
  | sc, .meth o m as, e => (match e with
    | .Call (.Attribute eo m' apos) es [] pos => decide (m = m') && (noCall eo && ((apos.endLine == pos.line) && (decide (es.length < 30) && (chkE T N sc o eo && chkA T N sc as es))))
    | _ => false)
  | sc, .blt b as, e => (match e with
    | .Call (.Name x _) (e :: es) [] _ => decide (x = b.name) && (glB sc x && (decide (x ∈ T.bn) && (decide (b ≠ .setLen) && chkA T N sc as (e :: es))))
    | _ => false)
  | sc, .get o k, e => (match e with
    | .Call (.Attribute eo m apos) [ek] [] pos => decide (m = "get") && (noCall eo && ((apos.endLine == pos.line) && (!isStar ek && (chkE T N sc o eo && chkE T N sc k ek))))
    | _ => false)
  | sc, .getd o k x, e => (match e with
    | .Call (.Attribute eo m apos) [ek, ex] [] pos => decide (m = "get") && (noCall eo && ((apos.endLine == pos.line) && (!isStar ek && (!isStar ex && (chkE T N sc o eo && (chkE T N sc k ek && chkE T N sc x ex))))))
    | _ => false)
  | sc, .comp t it c a, e => (match e with
    | .ListComp elt [⟨tg, iter, ifs, asy⟩] scope _ => decide (asy = 0) && (blkC N sc scope (ownL N t) && (tgB N (relS scope sc) (fnB scope) t tg && (noSet iter && (decide (ifs.length ≤ 1) && (chkI T N sc it tg iter && (chkA T N (relS scope sc) c ifs && chkE T N (relS scope sc) a elt))))))
    | _ => false)
  | sc, .dcomp t it c a b, e => (match e with
    | .DictComp kx vx [⟨tg, iter, ifs, asy⟩] scope _ => decide (asy = 0) && (blkC N sc scope (ownL N t) && (tgB N (relS scope sc) (fnB scope) t tg && (noSet iter && (decide (ifs.length ≤ 1) && (chkI T N sc it tg iter && (chkA T N (relS scope sc) c ifs && (chkE T N (relS scope sc) a kx && chkE T N (relS scope sc) b vx)))))))
    | _ => false)
  | sc, .mref a, e => isFr a && chkE T N sc a e
  | sc, .lrng a b, e => (match e with
    | .Call (.Name x _) [.Call (.Name y _) [ea, eb] [] _] [] _ => decide (x = "list") && (decide (y = "range") && (glB sc x && (glB sc y && (decide (x ∈ T.bn) && (decide (y ∈ T.bn) && (!isStar ea && (!isStar eb && (chkE T N sc a ea && chkE T N sc b eb))))))))
    | _ => false)
  | _, .dcst kvs, e => (match e with
    | .Dict ks vs _ => ccsB kvs ks vs
    | _ => false)
  | sc, .dmrg a b, e => (match e with
    | .Dict [none, none] [ea, eb] _ => chkE T N sc a ea && chkE T N sc b eb
    | _ => false)
  | sc, .skey f a, e => (match e with
    | .Call (.Name x _) [ea] [⟨some kw, .Name y _, _⟩] _ => decide (x = "sorted") && (decide (kw = "key") && (decide (f = y) && (glB sc x && (glB sc y && (decide (x ∈ T.bn) && (!isStar ea && chkE T N sc a ea))))))
    | _ => false)
  | sc, .sitm a, e => (match e with
    | .Call (.Name x _) [.Call (.Attribute ea m apos) [] [] cpos] [] _ => decide (x = "sorted") && (decide (m = "items") && (glB sc x && (decide (x ∈ T.bn) && (noCall ea && ((apos.endLine == cpos.line) && chkE T N sc a ea)))))
    | _ => false)
  | sc, .sdt a, e => (match e with
    | .Call (.Name x _) [ea] [] _ => decide (x = "sorted") && (glB sc x && (decide (x ∈ T.bn) && (!isStar ea && chkE T N sc a ea)))
    | _ => false)
  | sc, .mdt a, e => (match e with
    | .Call (.Name x _) [ea] [] _ => decide (x = "max") && (glB sc x && (decide (x ∈ T.bn) && (!isStar ea && chkE T N sc a ea)))
    | _ => false)
  | sc, .iss a, e => (match e with
    | .Call (.Name x _) [ea, .Name y _] [] _ => decide (x = "isinstance") && (decide (y = "str") && (glB sc x && (decide (x ∈ T.bn) && (glB sc y && (decide (y ∈ T.bn) && (!isStar ea && chkE T N sc a ea))))))
    | _ => false)
  | sc, .ist j a, e => (match e with
    | .Call (.Name x _) [ea, .Name y _] [] _ => decide (j ≤ 2) && (decide (x = "isinstance") && (decide (y = tyN j) && (glB sc x && (decide (x ∈ T.bn) && (glB sc y && (decide (y ∈ T.bn) && (!isStar ea && chkE T N sc a ea)))))))
    | _ => false)
  | sc, .join x a, e => (match e with
    | .Call (.Attribute (.Constant (.str y) _ _) m apos) [ea] [] pos => decide (x = y) && (decide (m = "join") && ((apos.endLine == pos.line) && (!isStar ea && chkE T N sc a ea)))
    | _ => false)
def chkA (T : Tb) (N : List Str) : Scope → Ar → List Expr → Bool
  | sc, .nil, es => (match es with
    | [] => true
    | _ => false)
  | sc, .cons a as, es => (match es with
    | e :: es => !isStar e && (chkE T N sc a e && chkA T N sc as es)
    | _ => false)
def chkI (T : Tb) (N : List Str) : Scope → It → Expr → Expr → Bool
  | sc, .seq a, tg, e => chkE T N sc a e
  | sc, .rng a, tg, e => (match e with
    | .Call (.Name x _) [ea] [] _ => decide (x = "range") && (glB sc x && (decide (x ∈ T.bn) && (!isStar ea && chkE T N sc a ea)))
    | _ => false)
  | sc, .rng2 a b, tg, e => (match e with
    | .Call (.Name x _) [ea, eb] [] _ => decide (x = "range") && (glB sc x && (decide (x ∈ T.bn) && (!isStar ea && (!isStar eb && (chkE T N sc a ea && chkE T N sc b eb)))))
    | _ => false)
  | sc, .items a, tg, e => (match e with
    | .Call (.Attribute ea m apos) [] [] pos => decide (m = "items") && ((match tg with | .Tuple _ _ _ => true | _ => false) && (noCall ea && ((apos.endLine == pos.line) && chkE T N sc a ea)))
    | _ => false)
end

structure Ok4 (p : Pg) (X : Cx) (G : Fns) (e : Expr) (a : Ex) : Prop where
  fe : ∀ ρ S, FE p X ρ S e (evE G a ρ S)
  ft : ∀ ρ S, FT p X ρ S e (evE G a ρ S)
  fh : ∀ ρ S, FH p X ρ S e (hOf a ρ S (evE G a ρ S))
  fn : isFr a = true → ∀ ρ S, FN p X ρ S e (evE G a ρ S)
inductive OkA (p : Pg) (X : Cx) (G : Fns) : List Expr → Ar → Prop
  | nil : OkA p X G [] .nil
  | cons {e es a as} : isStar e = false → Ok4 p X G e a → OkA p X G es as → OkA p X G (e :: es) (.cons a as)
section
variable {p : Pg} {N : List Str} {sc : Scope} {fn : Str → Bool} {k : Nat} {X : Cx} {G : Fns} {T : Tb}
theorem OkA.fa {es : List Expr} {as : Ar} (h : OkA p X G es as) : ∀ ρ S, FA p X ρ S es (evA G as ρ S) := by
  induction h with
  | nil => exact fun ρ S => fa_nil
  | cons h0 h1 _ ih => exact fun ρ S => fa_cons h0 (h1.fe ρ S) fun S => ih ρ S
theorem OkA.fhs {es : List Expr} {as : Ar} (h : OkA p X G es as) : ∀ ρ S, FHs p X ρ S es (evH G as ρ S) := by
  induction h with
  | nil => exact fun ρ S => fhs_nil
  | cons h0 h1 _ ih => exact fun ρ S => fhs_cons h0 (h1.fh ρ S) fun S => ih ρ S
theorem OkA.all {es : List Expr} {as : Ar} (h : OkA p X G es as) : (es.all fun e => !isStar e) = true := by
  induction h with
  | nil => rfl
  | cons h0 _ _ ih => rw [List.all_cons, h0, ih]; rfl
theorem vis_ok {x : Str} (h : visB sc x = true) : Vis sc x := by
  unfold visB at h
  split at h
  · exact .inl (by assumption)
  · exact .inr (.inl (by assumption))
  · exact .inr (.inr (by assumption))
  · cases h
theorem st_ok {x : Str} (h : stB sc fn x = true) : Loc sc x ∧ (fn x = true ∨ sc.names.lookup x = some .local) := by
  unfold stB at h
  split at h
  · rename_i q; exact ⟨.inl q, .inr q⟩
  · rename_i q; exact ⟨.inr q, .inl h⟩
  · cases h
theorem dbg_ok {x : Str} (h : dbg x = true) : (x == ("__debug__" : Str)) = false ∧ (x == ("__classdict__" : Str)) = false := by
  unfold dbg at h
  simpa only [Bool.and_eq_true, Bool.not_eq_true'] using h
theorem gl_ok {x : Str} (h : glB sc x = true) : sc.names.lookup x = some .globalImplicit ∧ (x == ("__debug__" : Str)) = false := by
  unfold glB at h
  rw [Bool.and_eq_true, decide_eq_true_eq] at h
  exact ⟨h.1, (dbg_ok h.2).1⟩
theorem nms_ok : ∀ {is : List Nat} {es : List Expr}, nmsB N sc fn is es = true → NmOk N sc fn is es
  | [], [], _ => trivial
  | i :: is, e :: es, h => by
    simp only [nmsB, Bool.and_eq_true] at h
    obtain ⟨h1, h2⟩ := h
    split at h1
    · rw [Bool.and_eq_true, decide_eq_true_eq] at h1
      obtain ⟨l, f⟩ := st_ok h1.2
      exact ⟨h1.1, l, f, nms_ok h2⟩
    · cases h1
  | [], _ :: _, h => by cases h
  | _ :: _, [], h => by cases h
theorem tg_ok {t : Tg} {tg : Expr} (h : tgB N sc fn t tg = true) (g : Good p N sc fn k X) : FG p X t tg := by
  unfold tgB at h
  split at h
  · split at h
    · rw [Bool.and_eq_true, decide_eq_true_eq] at h
      obtain ⟨l, f⟩ := st_ok h.2
      exact fg_nm g h.1 l f
    · cases h
  · split at h
    · exact fg_nms g (nms_ok h)
    · cases h
theorem tg_nm {t : Tg} {tg : Expr} (h : tgB N sc fn t tg = true) : nmTg tg = true := by
  unfold tgB at h
  split at h
  · split at h
    · rfl
    · cases h
  · split at h
    · rfl
    · cases h
theorem is_ok {o : CmpOp} {n : Bool} (h : isB o n = true) : (o = .Is ∨ o = .IsNot) ∧ n = decide (o = .IsNot) := by
  unfold isB at h
  split at h
  · cases n <;> first | exact ⟨.inl rfl, rfl⟩ | cases h
  · cases n <;> first | exact ⟨.inr rfl, rfl⟩ | cases h
  · cases h
theorem ft_ife {ec ea eb : Expr} {c a b : Ex} {ρ : Env'} {S : Store} {pos : Pos} (hc : FT p X ρ S ec (evE G c ρ S)) (ha : ∀ S, FT p X ρ S ea (evE G a ρ S)) (hb : ∀ S, FT p X ρ S eb (evE G b ρ S)) : FT p X ρ S (.IfExp ec ea eb pos) (evE G (.ife c a b) ρ S) := by
  intro Pr F ι α σ H R d S' e Q q pins s I
  rw [evE] at e
  obtain ⟨⟨u, S1⟩, e1, e⟩ := Option.bind_eq_some_iff.mp e
  obtain ⟨i, e2, e3⟩ := Option.bind_eq_some_iff.mp e
  cases blOf_eq e2
  have hx : PySem.isTrue (.IfExp ec ea eb pos) X.env (eval (.IfExp ec ea eb pos) X.env) = (do if ← PySem.isTrue ec X.env (eval ec X.env) then PySem.isTrue ea X.env (eval ea X.env) else PySem.isTrue eb X.env (eval eb X.env)) := by simp only [PySem.isTrue]
  rw [hx]
  have w := hc Pr F ι α σ H R _ _ e1 (fun b' H' => b' = i ∧ ∃ F' ι', Rel p Pr ρ S1 F' ι' α σ H' ∧ LeH F F' ∧ LeA ι ι') fun F' ι' H' R' l m => ⟨rfl, F', ι', R', l, m⟩
  refine wpAny_bind (thn (w pins s I) fun d' s1 hd => ?_)
  obtain ⟨H1, I1, rfl, F1, ι1, R1, l1, m1⟩ := hd
  by_cases hi : d' = true
  · rw [if_pos hi] at e3 ⊢
    exact ha S1 Pr F1 ι1 α σ H1 R1 _ _ e3 _ (fun F' ι' H' R' l m => q F' ι' H' R' (l1.trans l) (m1.trans m)) pins s1 I1
  · rw [if_neg hi] at e3 ⊢
    exact hb S1 Pr F1 ι1 α σ H1 R1 _ _ e3 _ (fun F' ι' H' R' l m => q F' ι' H' R' (l1.trans l) (m1.trans m)) pins s1 I1
/-- what is no name -/
theorem Ok4.of {e : Expr} {a : Ex} (hn : ∀ i, a ≠ .var i) (he : ∀ whole, isTrue e X.env whole = (do let v ← whole; standAt e.pos; holding [v] (truthy v))) (h : ∀ ρ S, FE p X ρ S e (evE G a ρ S)) (hf : isFr a = true → ∀ ρ S, FN p X ρ S e (evE G a ρ S)) : Ok4 p X G e a :=
  ⟨h, fun ρ S => ft_val (h ρ S) he, fun ρ S => fh_of hn (h ρ S), hf⟩
theorem Ok4.ofT {e : Expr} {a : Ex} (hn : ∀ i, a ≠ .var i) (h : ∀ ρ S, FE p X ρ S e (evE G a ρ S)) (ht : ∀ ρ S, FT p X ρ S e (evE G a ρ S)) (hf : isFr a = false) : Ok4 p X G e a :=
  ⟨h, ht, fun ρ S => fh_of hn (h ρ S), fun z => by rw [hf] at z; cases z⟩
theorem fn_blt {e : Expr} {ρ : Env'} {S : Store} {pos ps : Pos} {es : List Expr} {as : Ar} {bi : Bi} {x : Str} (g : Good p N sc fn k X) (hx : x = bi.name) (hg : sc.names.lookup x = some .globalImplicit) (hm : p.mg x = none) (hb : bi = .list ∨ bi = .sorted) (h0 : isStar e = false) (hpl : (es.all fun e => !isStar e) = true) (ha : FHs p X ρ S (e :: es) (evH G as ρ S)) :
    FN p X ρ S (.Call (.Name x ps) (e :: es) [] pos) (evE G (.blt bi as) ρ S) := by
  intro Pr F ι α σ H R d S' e' Q q
  rw [evE] at e'
  obtain ⟨⟨hs, S1⟩, e1, e'⟩ := Option.bind_eq_some_iff.mp e'
  obtain ⟨us, e2, e'⟩ := Option.bind_eq_some_iff.mp e'
  obtain ⟨d', e5, e6⟩ := Option.map_eq_some_iff.mp e'
  cases e6
  have hG : Gl X x := by show X.env.scope.names.lookup x = _; rw [g.sc]; exact hg
  have hM : X.mg x = none := by rw [← hm, ← g.pg]; rfl
  have rd : tCB (wC X bi.fn) (wA X (e :: es)) σ H Q := by
    refine ha Pr F ι α σ H R _ _ e1 _ fun vs F' ι' H' R' l m rs => ?_
    refine blt_new bi hb g.pg g.calm g.units R'.wd.sub (cws_of R' rs e2) e5 fun c ws ds hd hc rr => ?_
    subst hd
    obtain ⟨R2, f2⟩ := R'.alloc (d := .lst ds) (o := .lst ws) hc fun G g => ⟨ws, g, rr⟩
    exact q c F' ι' _ R2 l m f2
  subst hx
  rcases hb with rfl | rfl
  · exact wE_of (pe_callTy wC_ok hG hM (by decide +kernel) paW (by decide) (by decide) (star_cons h0) (star_all hpl).1) rd
  · exact wE_of (pe_callB wC_ok hG hM (by decide +kernel) paW (by decide) (by decide) (star_cons h0) (star_all hpl).1) rd
theorem part_ok {o : Option Expr} {as : Ar} (h : OkA p X G o.toList as) : ∀ ρ, FO p X ρ o (evA G as ρ) := by
  cases o with
  | none => cases h with | nil => exact fun ρ => fo_none
  | some e => cases h with | cons h0 h1 h2 => cases h2 with | nil => exact fun ρ => fo_some fun S => h1.fe ρ S
theorem own_ix {t : Tg} : (ownL N t).map (·.2) = t.ix := by
  unfold ownL
  rw [List.map_map]
  exact List.map_id _
theorem sl_plain {e : Expr} (h : notSl e = true) : PlainIx e := plain_ix (by cases e <;> first | rfl | cases h)
mutual
theorem sE (tb : TbOk p T) (gf : GoodF p k G) : ∀ (a : Ex) {e : Expr} {sc : Scope} {fn : Str → Bool} {X : Cx}, chkE T N sc a e = true → Good p N sc fn (k + 1) X → Ok4 p X G e a
  | .var i, e, sc, fn, X, h, g => by
    unfold chkE at h; split at h
    · simp only [Bool.and_eq_true, decide_eq_true_eq] at h
      obtain ⟨h1, h2, h3⟩ := h
      obtain ⟨d1, d2⟩ := dbg_ok h3
      exact ⟨fun ρ S => fe_var g h1 (vis_ok h2) d1 d2, fun ρ S => ft_val (fe_var g h1 (vis_ok h2) d1 d2) fun _ => rfl, fun ρ S => fh_var g h1 (vis_ok h2) d1 d2, fun z => by cases z⟩
    · cases h
  | .cst c, e, sc, fn, X, h, g => by
    unfold chkE at h; split at h
    · exact .of (fun _ z => by cases z) (fun _ => rfl) (fun ρ S => fe_cst h) (fun z => by cases z)
    · cases h
  | .glb x gc, e, sc, fn, X, h, g => by
    unfold chkE at h; split at h
    · simp only [Bool.and_eq_true, decide_eq_true_eq] at h
      obtain ⟨rfl, h2, h3⟩ := h
      obtain ⟨l, d1⟩ := gl_ok h2
      exact .of (fun _ z => by cases z) (fun _ => rfl) (fun ρ S => fe_glb g l (tb.con _ _ h3) d1) (fun z => by cases z)
    · cases h
  | .bin o a b, e, sc, fn, X, h, g => by
    unfold chkE at h; split at h
    · simp only [Bool.and_eq_true, decide_eq_true_eq] at h
      obtain ⟨rfl, h2, h3⟩ := h
      have ha := sE tb gf a h2 g
      have hb := sE tb gf b h3 g
      exact .of (fun _ z => by cases z) (fun _ => rfl) (fun ρ S => fe_bin g (ha.fh ρ S) fun S => hb.fh ρ S) (fun z => by cases z)
    · cases h
  | .neg a, e, sc, fn, X, h, g => by
    unfold chkE at h; split at h
    · have ha := sE tb gf a h g
      exact .of (fun _ z => by cases z) (fun _ => rfl) (fun ρ S => fe_neg (ha.fe ρ S)) (fun z => by cases z)
    · cases h
  | .not a, e, sc, fn, X, h, g => by
    unfold chkE at h; split at h
    · have ha := sE tb gf a h g
      exact .ofT (fun _ z => by cases z) (fun ρ S => fe_not (ha.fe ρ S)) (fun ρ S => ft_not (ha.ft ρ S)) rfl
    · cases h
  | .and a b, e, sc, fn, X, h, g => by
    unfold chkE at h; split at h
    · rw [Bool.and_eq_true] at h
      obtain ⟨h1, h2⟩ := h
      have ha := sE tb gf a h1 g
      split at h2
      · have hb := sE tb gf b h2 g
        exact .ofT (fun _ z => by cases z) (fun ρ S => fe_and (ha.fe ρ S) fun S => fe_one (hb.fe ρ S)) (fun ρ S => ft_and (ha.ft ρ S) fun S => ft_one (hb.ft ρ S)) rfl
      · have hb := sE tb gf b h2 g
        exact .ofT (fun _ z => by cases z) (fun ρ S => fe_and (ha.fe ρ S) fun S => hb.fe ρ S) (fun ρ S => ft_and (ha.ft ρ S) fun S => hb.ft ρ S) rfl
    · cases h
  | .or a b, e, sc, fn, X, h, g => by
    unfold chkE at h; split at h
    · rw [Bool.and_eq_true] at h
      obtain ⟨h1, h2⟩ := h
      have ha := sE tb gf a h1 g
      split at h2
      · have hb := sE tb gf b h2 g
        exact .ofT (fun _ z => by cases z) (fun ρ S => fe_or (ha.fe ρ S) fun S => fe_one (hb.fe ρ S)) (fun ρ S => ft_or (ha.ft ρ S) fun S => ft_one (hb.ft ρ S)) rfl
      · have hb := sE tb gf b h2 g
        exact .ofT (fun _ z => by cases z) (fun ρ S => fe_or (ha.fe ρ S) fun S => hb.fe ρ S) (fun ρ S => ft_or (ha.ft ρ S) fun S => hb.ft ρ S) rfl
    · cases h
  | .ife c a b, e, sc, fn, X, h, g => by
    unfold chkE at h; split at h
    · simp only [Bool.and_eq_true] at h
      obtain ⟨h1, h2, h3⟩ := h
      have hc := sE tb gf c h1 g
      have ha := sE tb gf a h2 g
      have hb := sE tb gf b h3 g
      exact .ofT (fun _ z => by cases z) (fun ρ S => fe_ife (hc.ft ρ S) (fun S => ha.fe ρ S) fun S => hb.fe ρ S) (fun ρ S => ft_ife (hc.ft ρ S) (fun S => ha.ft ρ S) fun S => hb.ft ρ S) rfl
    · cases h
  | .cmp o a b, e, sc, fn, X, h, g => by
    unfold chkE at h; split at h
    · simp only [Bool.and_eq_true, decide_eq_true_eq] at h
      obtain ⟨rfl, h2, h3, h4⟩ := h
      have ha := sE tb gf a h3 g
      have hb := sE tb gf b h4 g
      exact .ofT (fun _ z => by cases z) (fun ρ S => fe_cmp g (ha.fh ρ S) (fun S => hb.fh ρ S) (mark_ok h2)) (fun ρ S => ft_cmp g (ha.fh ρ S) (fun S => hb.fh ρ S) (mark_ok h2)) rfl
    · cases h
  | .chn o o' a b c, e, sc, fn, X, h, g => by
    unfold chkE at h; split at h
    · simp only [Bool.and_eq_true, decide_eq_true_eq] at h
      obtain ⟨rfl, rfl, h2, h3, h4, h5⟩ := h
      have ha := sE tb gf a h3 g
      have hb := sE tb gf b h4 g
      have hc := sE tb gf c h5 g
      exact .ofT (fun _ z => by cases z) (fun ρ S => fe_chn g (ha.fh ρ S) (fun S => hb.fh ρ S) (fun S => hc.fh ρ S) (mark_ok h2)) (fun ρ S => ft_chn g (ha.fh ρ S) (fun S => hb.fh ρ S) (fun S => hc.fh ρ S) (mark_ok h2)) rfl
    · cases h
  | .iso n a b, e, sc, fn, X, h, g => by
    unfold chkE at h; split at h
    · simp only [Bool.and_eq_true] at h
      obtain ⟨h1, h2, h3, h4⟩ := h
      obtain ⟨i1, i2⟩ := is_ok h1
      have ha := sE tb gf a h3 g
      have hb := sE tb gf b h4 g
      exact .ofT (fun _ z => by cases z) (fun ρ S => fe_iso i1 i2 (ha.fe ρ S) (fun S => hb.fe ρ S) (mark_ok h2)) (fun ρ S => ft_iso i1 i2 (ha.fe ρ S) (fun S => hb.fe ρ S) (mark_ok h2)) rfl
    · cases h
  | .tup as, e, sc, fn, X, h, g => by
    unfold chkE at h; split at h
    · have ha := sA tb gf as h g
      exact .of (fun _ z => by cases z) (fun _ => rfl) (fun ρ S => fe_tup (ha.fa ρ S)) (fun z => by cases z)
    · cases h
  | .list as, e, sc, fn, X, h, g => by
    unfold chkE at h; split at h
    · have ha := sA tb gf as h g
      exact .of (fun _ z => by cases z) (fun _ => rfl) (fun ρ S => fe_list (ha.fa ρ S)) (fun _ ρ S => fn_list (ha.fa ρ S))
    · cases h
  | .dnew t, e, sc, fn, X, h, g => by
    unfold chkE at h; split at h
    · exact .of (fun _ z => by cases z) (fun _ => rfl) (fun ρ S => fe_of_fn fn_dnew) (fun _ ρ S => fn_dnew)
    · cases h
  | .disp ks vs, e, sc, fn, X, h, g => by
    rw [chkE] at h; cases h
  | .idx a b, e, sc, fn, X, h, g => by
    unfold chkE at h; split at h
    · simp only [Bool.and_eq_true] at h
      obtain ⟨h1, h2, h3⟩ := h
      have ha := sE tb gf a h2 g
      have hb := sE tb gf b h3 g
      exact .of (fun _ z => by cases z) (fun _ => rfl) (fun ρ S => fe_idx g (sl_plain h1) (ha.fh ρ S) fun S => hb.fe ρ S) (fun z => by cases z)
    · cases h
  | .sl a lo hi, e, sc, fn, X, h, g => by
    unfold chkE at h; split at h
    · simp only [Bool.and_eq_true] at h
      obtain ⟨h1, h2, h3⟩ := h
      have ha := sE tb gf a h1 g
      have hl := sA tb gf lo h2 g
      have hh := sA tb gf hi h3 g
      exact .of (fun _ z => by cases z) (fun _ => rfl) (fun ρ S => fe_sl g (ha.fh ρ S) (part_ok hl ρ) (part_ok hh ρ)) (fun z => by cases z)
    · cases h
  | .lsl a lo hi, e, sc, fn, X, h, g => by
    unfold chkE at h; split at h
    · simp only [Bool.and_eq_true] at h
      obtain ⟨h1, h2, h3⟩ := h
      have ha := sE tb gf a h1 g
      have hl := sA tb gf lo h2 g
      have hh := sA tb gf hi h3 g
      exact .of (fun _ z => by cases z) (fun _ => rfl) (fun ρ S => fe_of_fn (fn_lsl g (ha.fh ρ S) (part_ok hl ρ) (part_ok hh ρ))) (fun _ ρ S => fn_lsl g (ha.fh ρ S) (part_ok hl ρ) (part_ok hh ρ))
    · cases h
  | .rev a, e, sc, fn, X, h, g => by
    unfold chkE at h; split at h
    · have ha := sE tb gf a h g
      exact .of (fun _ z => by cases z) (fun _ => rfl) (fun ρ S => fe_rev g (ha.fh ρ S)) (fun z => by cases z)
    · cases h
  | .fld a f, e, sc, fn, X, h, g => by
    unfold chkE at h; split at h
    · simp only [Bool.and_eq_true, decide_eq_true_eq] at h
      obtain ⟨rfl, h2, h3⟩ := h
      have ha := sE tb gf a h3 g
      exact .of (fun _ z => by cases z) (fun _ => rfl) (fun ρ S => fe_fld g gf.toFldOk (attr_ok h2) (ha.fe ρ S)) (fun z => by cases z)
    · cases h
  | .call f as, e, sc, fn, X, h, g => by
    unfold chkE at h; split at h
    · simp only [Bool.and_eq_true, decide_eq_true_eq] at h
      obtain ⟨rfl, h2, h3⟩ := h
      obtain ⟨l, d1⟩ := gl_ok h2
      have ha := sA tb gf as h3 g
      refine .of (fun _ z => by cases z) (fun _ => rfl) (fun ρ S => ?_) (fun z => by cases z)
      cases ha with
      | nil => exact fe_call0 g gf l d1
      | cons h0 h1 hr => exact fe_call g gf l d1 h0 hr.all ((OkA.cons h0 h1 hr).fa ρ S)
    · cases h
  | .mk f as, e, sc, fn, X, h, g => by
    unfold chkE at h; split at h
    · simp only [Bool.and_eq_true, decide_eq_true_eq] at h
      obtain ⟨rfl, h2, h3⟩ := h
      obtain ⟨l, d1⟩ := gl_ok h2
      have ha := sA tb gf as h3 g
      refine .of (fun _ z => by cases z) (fun _ => rfl) (fun ρ S => ?_) (fun z => by cases z)
      cases ha with
      | nil => exact fe_mk0 g gf l d1
      | cons h0 h1 hr => exact fe_mk g gf l d1 h0 hr.all ((OkA.cons h0 h1 hr).fa ρ S)
    · cases h
  | .meth o m as, e, sc, fn, X, h, g => by
    unfold chkE at h; split at h
    · simp only [Bool.and_eq_true, decide_eq_true_eq] at h
      obtain ⟨rfl, h2, h3, h4, h5, h6⟩ := h
      have ho := sE tb gf o h5 g
      have ha := sA tb gf as h6 g
      have hm := fun env => meth_ok (m := m) (env := env) h2 ha.all h4 h3
      refine .of (fun _ z => by cases z) (fun _ => rfl) (fun ρ S => ?_) (fun z => by cases z)
      cases ha with
      | nil => exact fe_meth0 g gf (hm _) (ho.fe ρ S)
      | cons h0 h1 hr => exact fe_meth g gf h0 hr.all (hm _) (ho.fe ρ S) fun S => (OkA.cons h0 h1 hr).fa ρ S
    · cases h
  | .blt b as, e, sc, fn, X, h, g => by
    unfold chkE at h; split at h
    · simp only [Bool.and_eq_true, decide_eq_true_eq] at h
      obtain ⟨h1, h2, h3, h4, h5⟩ := h
      obtain ⟨l, d1⟩ := gl_ok h2
      have ha := sA tb gf as h5 g
      cases ha with
      | cons h0 h6 hr =>
      refine .of (fun _ z => by cases z) (fun _ => rfl) (fun ρ S => fe_blt g h1 l (tb.bn _ h3) h4 h0 hr.all ((OkA.cons h0 h6 hr).fhs ρ S)) (fun z ρ S => ?_)
      exact fn_blt g h1 l (tb.bn _ h3) (by cases b <;> first | exact .inl rfl | exact .inr rfl | cases z) h0 hr.all ((OkA.cons h0 h6 hr).fhs ρ S)
    · cases h
  | .get o kx, e, sc, fn, X, h, g => by
    unfold chkE at h; split at h
    · simp only [Bool.and_eq_true, decide_eq_true_eq, Bool.not_eq_true'] at h
      obtain ⟨rfl, h2, h3, h4, h5, h6⟩ := h
      have ho := sE tb gf o h5 g
      have hk := sE tb gf kx h6 g
      exact .of (fun _ z => by cases z) (fun _ => rfl) (fun ρ S => fe_get g (m1_ok h2 h4 h3) (ho.fh ρ S) fun S => hk.fe ρ S) (fun z => by cases z)
    · cases h
  | .getd o kx x, e, sc, fn, X, h, g => by
    unfold chkE at h; split at h
    · simp only [Bool.and_eq_true, decide_eq_true_eq, Bool.not_eq_true'] at h
      obtain ⟨rfl, h2, h3, h4, h4', h5, h6, h7⟩ := h
      have ho := sE tb gf o h5 g
      have hk := sE tb gf kx h6 g
      have hx := sE tb gf x h7 g
      exact .of (fun _ z => by cases z) (fun _ => rfl) (fun ρ S => fe_getd g (m2_ok h2 h4 h4' h3) (ho.fh ρ S) (fun S => hk.fe ρ S) fun S => hx.fe ρ S) (fun z => by cases z)
    · cases h
  | .comp t it c a, e, sc, fn, X, h, g => by
    unfold chkE at h; split at h
    · simp only [Bool.and_eq_true, decide_eq_true_eq] at h
      obtain ⟨rfl, h1, h2, h3, h4, h5, h6, h7⟩ := h
      have hi := sI tb gf it h5 g
      rename_i elt tg iter ifs scope pos
      have hc : ∀ X', Good p N (relS scope sc) (fnB scope) (k + 1) X' → OkA p X' G ifs c := fun X' g' => sA tb gf c h6 g'
      have he : ∀ X', Good p N (relS scope sc) (fnB scope) (k + 1) X' → Ok4 p X' G elt a := fun X' g' => sE tb gf a h7 g'
      have fc : FC p G (Good p N (relS scope sc) (fnB scope) (k + 1)) ifs c := by
        cases c with
        | nil =>
          cases ifs with
          | nil => exact .nil
          | cons _ _ => cases h6
        | cons c1 cr =>
          cases ifs with
          | nil => cases h6
          | cons f fs =>
            cases fs with
            | cons _ _ => simp at h4
            | nil =>
              cases cr with
              | cons _ _ =>
                have h6 := (Bool.and_eq_true_iff.mp (Bool.and_eq_true_iff.mp h6).2).2
                cases h6
              | nil =>
                refine .one fun X' g' ρ S => ?_
                have q := hc X' g'
                cases q with
                | cons _ q _ => exact q.ft ρ S
      have fn_ := fun ρ S => fn_comp (pos := pos) g (hi ρ S) (blkOk_by h1) own_ix (fun X' g' => tg_ok h2 g') fc (fun X' g' ρ S => (he X' g').fe ρ S) (fold_ok h3)
      exact .of (fun _ z => by cases z) (fun _ => rfl) (fun ρ S => fe_of_fn (fn_ ρ S)) (fun _ ρ S => fn_ ρ S)
    · cases h
  | .dcomp t it c a b, e, sc, fn, X, h, g => by
    unfold chkE at h; split at h
    · simp only [Bool.and_eq_true, decide_eq_true_eq] at h
      obtain ⟨rfl, h1, h2, h3, h4, h5, h6, h7, h8⟩ := h
      have hi := sI tb gf it h5 g
      rename_i kx vx tg iter ifs scope pos
      have hc : ∀ X', Good p N (relS scope sc) (fnB scope) (k + 1) X' → OkA p X' G ifs c := fun X' g' => sA tb gf c h6 g'
      have he : ∀ X', Good p N (relS scope sc) (fnB scope) (k + 1) X' → Ok4 p X' G kx a := fun X' g' => sE tb gf a h7 g'
      have hv : ∀ X', Good p N (relS scope sc) (fnB scope) (k + 1) X' → Ok4 p X' G vx b := fun X' g' => sE tb gf b h8 g'
      have fc : FC p G (Good p N (relS scope sc) (fnB scope) (k + 1)) ifs c := by
        cases c with
        | nil =>
          cases ifs with
          | nil => exact .nil
          | cons _ _ => cases h6
        | cons c1 cr =>
          cases ifs with
          | nil => cases h6
          | cons f fs =>
            cases fs with
            | cons _ _ => simp at h4
            | nil =>
              cases cr with
              | cons _ _ =>
                have h6 := (Bool.and_eq_true_iff.mp (Bool.and_eq_true_iff.mp h6).2).2
                cases h6
              | nil =>
                refine .one fun X' g' ρ S => ?_
                have q := hc X' g'
                cases q with
                | cons _ q _ => exact q.ft ρ S
      have fn_ := fun ρ S => fn_dcomp (pos := pos) g (hi ρ S) (blkOk_by h1) own_ix (fun X' g' => tg_ok h2 g') fc (fun X' g' ρ S => (he X' g').fe ρ S) (fun X' g' ρ S => (hv X' g').fe ρ S) (fold_ok h3)
      exact .of (fun _ z => by cases z) (fun _ => rfl) (fun ρ S => fe_of_fn (fn_ ρ S)) (fun _ ρ S => fn_ ρ S)
    · cases h
  | .lrng a b, e, sc, fn, X, h, g => by
    unfold chkE at h; split at h
    · simp only [Bool.and_eq_true, decide_eq_true_eq, Bool.not_eq_true'] at h
      obtain ⟨h1, h2, h3, h4, h5, h6, h7, h8, h9, h10⟩ := h
      have ha := sE tb gf a h9 g
      have hb := sE tb gf b h10 g
      exact .of (fun _ z => by cases z) (fun _ => rfl) (fun ρ S => fe_of_fn (fn_lrng (G := G) (ρ := ρ) (S := S) g h1 h2 (gl_ok h3).1 (tb.bn _ h5) (gl_ok h4).1 (tb.bn _ h6) h7 h8 (ha.fe ρ S) fun S => hb.fe ρ S)) (fun _ ρ S => fn_lrng (G := G) (ρ := ρ) (S := S) g h1 h2 (gl_ok h3).1 (tb.bn _ h5) (gl_ok h4).1 (tb.bn _ h6) h7 h8 (ha.fe ρ S) fun S => hb.fe ρ S)
    · cases h
  | .dcst kvs, e, sc, fn, X, h, g => by
    unfold chkE at h; split at h
    · exact .of (fun _ z => by cases z) (fun _ => rfl) (fun ρ S => fe_of_fn (fn_dcst h)) (fun _ ρ S => fn_dcst h)
    · cases h
  | .dmrg a b, e, sc, fn, X, h, g => by
    unfold chkE at h; split at h
    · simp only [Bool.and_eq_true] at h
      have ha := sE tb gf a h.1 g
      have hb := sE tb gf b h.2 g
      exact .of (fun _ z => by cases z) (fun _ => rfl) (fun ρ S => fe_of_fn (fn_dmrg g (fun S => ha.fh ρ S) fun S => hb.fh ρ S)) (fun _ ρ S => fn_dmrg g (fun S => ha.fh ρ S) fun S => hb.fh ρ S)
    · cases h
  | .skey f a, e, sc, fn, X, h, g => by
    unfold chkE at h; split at h
    · simp only [Bool.and_eq_true, decide_eq_true_eq, Bool.not_eq_true'] at h
      obtain ⟨h1, rfl, rfl, h4, h5, h6, h7, h8⟩ := h
      have ha := sE tb gf a h8 g
      exact .of (fun _ z => by cases z) (fun _ => rfl) (fun ρ S => fe_of_fn (fn_skey g gf h1 (gl_ok h4).1 (tb.bn _ h6) (gl_ok h5).1 (gl_ok h5).2 h7 (ha.fh ρ S))) (fun _ ρ S => fn_skey g gf h1 (gl_ok h4).1 (tb.bn _ h6) (gl_ok h5).1 (gl_ok h5).2 h7 (ha.fh ρ S))
    · cases h
  | .sitm a, e, sc, fn, X, h, g => by
    unfold chkE at h; split at h
    · simp only [Bool.and_eq_true, decide_eq_true_eq] at h
      obtain ⟨h1, rfl, h3, h4, h5, h6, h7⟩ := h
      have ha := sE tb gf a h7 g
      exact .of (fun _ z => by cases z) (fun _ => rfl) (fun ρ S => fe_of_fn (fn_sitm g h1 (gl_ok h3).1 (tb.bn _ h4) h5 h6 (ha.fh ρ S))) (fun _ ρ S => fn_sitm g h1 (gl_ok h3).1 (tb.bn _ h4) h5 h6 (ha.fh ρ S))
    · cases h
  | .sdt a, e, sc, fn, X, h, g => by
    unfold chkE at h; split at h
    · simp only [Bool.and_eq_true, decide_eq_true_eq, Bool.not_eq_true'] at h
      obtain ⟨h1, h3, h4, h5, h6⟩ := h
      have ha := sE tb gf a h6 g
      exact .of (fun _ z => by cases z) (fun _ => rfl) (fun ρ S => fe_of_fn (fn_sdt g h1 (gl_ok h3).1 (tb.bn _ h4) h5 (ha.fh ρ S))) (fun _ ρ S => fn_sdt g h1 (gl_ok h3).1 (tb.bn _ h4) h5 (ha.fh ρ S))
    · cases h
  | .mdt a, e, sc, fn, X, h, g => by
    unfold chkE at h; split at h
    · simp only [Bool.and_eq_true, decide_eq_true_eq, Bool.not_eq_true'] at h
      obtain ⟨h1, h3, h4, h5, h6⟩ := h
      have ha := sE tb gf a h6 g
      exact .of (fun _ z => by cases z) (fun _ => rfl) (fun ρ S => fe_mdt g h1 (gl_ok h3).1 (tb.bn _ h4) h5 (ha.fh ρ S)) (fun z => by cases z)
    · cases h
  | .iss a, e, sc, fn, X, h, g => by
    unfold chkE at h; split at h
    · simp only [Bool.and_eq_true, decide_eq_true_eq, Bool.not_eq_true'] at h
      obtain ⟨h1, h2, h3, h4, h5, h6, h7, h8⟩ := h
      have ha := sE tb gf a h8 g
      exact .of (fun _ z => by cases z) (fun _ => rfl) (fun ρ S => fe_iss g h1 h2 (gl_ok h3).1 (tb.bn _ h4) (gl_ok h5).1 (tb.bn _ h6) h7 (ha.fh ρ S)) (fun z => by cases z)
    · cases h
  | .ist j a, e, sc, fn, X, h, g => by
    unfold chkE at h; split at h
    · simp only [Bool.and_eq_true, decide_eq_true_eq, Bool.not_eq_true'] at h
      obtain ⟨h0, h1, h2, h3, h4, h5, h6, h7, h8⟩ := h
      have ha := sE tb gf a h8 g
      exact .of (fun _ z => by cases z) (fun _ => rfl) (fun ρ S => fe_ist g h0 h1 h2 (gl_ok h3).1 (tb.bn _ h4) (gl_ok h5).1 (tb.bn _ h6) h7 (ha.fh ρ S)) (fun z => by cases z)
    · cases h
  | .join x a, e, sc, fn, X, h, g => by
    unfold chkE at h; split at h
    · simp only [Bool.and_eq_true, decide_eq_true_eq, Bool.not_eq_true'] at h
      obtain ⟨h1, h2, h3, h4, h5⟩ := h
      subst h1
      subst h2
      have ha := sE tb gf a h5 g
      exact .of (fun _ z => by cases z) (fun _ => rfl) (fun ρ S => fe_join g h4 h3 (ha.fh ρ S)) (fun z => by cases z)
    · cases h
  | .mref a, e, sc, fn, X, h, g => by
    rw [chkE, Bool.and_eq_true] at h
    have ha := sE tb gf a h.2 g
    refine ⟨fun ρ S => fe_mref (ha.fn h.1 ρ S), fun ρ S => ?_, fun ρ S => fh_of (fun _ z => by cases z) (fe_mref (ha.fn h.1 ρ S)), fun z => by cases z⟩
    intro Pr F ι α σ H R b S' er
    exfalso
    rw [evE] at er
    obtain ⟨x, e1, e2⟩ := Option.bind_eq_some_iff.mp er
    unfold newRef at e2
    split at e2 <;> cases e2
theorem sA (tb : TbOk p T) (gf : GoodF p k G) : ∀ (as : Ar) {es : List Expr} {sc : Scope} {fn : Str → Bool} {X : Cx}, chkA T N sc as es = true → Good p N sc fn (k + 1) X → OkA p X G es as
  | .nil, es, sc, fn, X, h, g => by
    unfold chkA at h; split at h
    · exact .nil
    · cases h
  | .cons a as, es, sc, fn, X, h, g => by
    unfold chkA at h; split at h
    · simp only [Bool.and_eq_true, Bool.not_eq_true'] at h
      exact .cons h.1 (sE tb gf a h.2.1 g) (sA tb gf as h.2.2 g)
    · cases h
theorem sI (tb : TbOk p T) (gf : GoodF p k G) : ∀ (it : It) {tg e : Expr} {sc : Scope} {fn : Str → Bool} {X : Cx}, chkI T N sc it tg e = true → Good p N sc fn (k + 1) X → ∀ ρ S, FI p X ρ S tg e (evI G it ρ S)
  | .seq a, tg, e, sc, fn, X, h, g => by
    rw [chkI] at h
    have ha := sE tb gf a h g
    exact fun ρ S => fi_seq g (ha.fh ρ S)
  | .rng a, tg, e, sc, fn, X, h, g => by
    unfold chkI at h; split at h
    · simp only [Bool.and_eq_true, decide_eq_true_eq, Bool.not_eq_true'] at h
      obtain ⟨rfl, h2, h3, h4, h5⟩ := h
      have ha := sE tb gf a h5 g
      exact fun ρ S => fi_rng g (gl_ok h2).1 (tb.bn _ h3) h4 fun S => ha.fe ρ S
    · cases h
  | .rng2 a b, tg, e, sc, fn, X, h, g => by
    unfold chkI at h; split at h
    · simp only [Bool.and_eq_true, decide_eq_true_eq, Bool.not_eq_true'] at h
      obtain ⟨rfl, h2, h3, h4, h5, h6, h7⟩ := h
      have ha := sE tb gf a h6 g
      have hb := sE tb gf b h7 g
      exact fun ρ S => fi_rng2 g (gl_ok h2).1 (tb.bn _ h3) h4 h5 (fun S => ha.fe ρ S) fun S => hb.fe ρ S
    · cases h
  | .items a, tg, e, sc, fn, X, h, g => by
    unfold chkI at h; split at h
    · simp only [Bool.and_eq_true, decide_eq_true_eq] at h
      obtain ⟨rfl, h2, h3, h4, h5⟩ := h
      have ha := sE tb gf a h5 g
      split at h2
      · exact fun ρ S => fi_items (attr_ok h3) h4 (ha.fh ρ S)
      · cases h2
    · cases h
end
end
end Z

set_option Elab.async false
set_option linter.all false
set_option maxRecDepth 100000
set_option maxHeartbeats 4000000
namespace Z
open PySem PySem.Spec PyProof.Rows L2

/-! # statements and their short form -/
def fnT : Str → Bool := fun _ => true
def isCo : Ex → Bool
  | .comp _ _ _ _ => true
  | _ => false
def isCoM : Ex → Bool
  | .comp _ _ _ _ => true
  | .mref (.comp _ _ _ _) => true
  | _ => false
def compTo (sc : Scope) (tg e : Expr) : Bool := match tg, e with
  | .Name x ps, .ListComp _ _ scope cp => swapC sc x ps cp scope
  | _, _ => false
def par2 (N : List Str) (sc : Scope) (is : List Nat) (ts vs : List Expr) : Bool := match is, ts with
  | [i, j], [.Name x px, .Name y py] => decide (N[i]? = some x) && (decide (N[j]? = some y) && (decide (i ≠ j) && swap2 sc x y px py vs))
  | [i, j, l], [.Name x px, .Name y py, .Name z pz] => decide (N[i]? = some x) && (decide (N[j]? = some y) && (decide (N[l]? = some z) && (decide (i ≠ j ∧ i ≠ l ∧ j ≠ l) && swap3 sc x y z px py pz vs)))
  | _, _ => false
def chkP (T : Tb) (N : List Str) (sc : Scope) (o : Ex) (as : Ar) (e : Expr) : Bool := match e with
  | .Call (.Attribute eo m apos) es [] cp => decide (m = "pop") && (noCall eo && ((apos.endLine == cp.line) && (decide (es.length ≤ 2) && (chkE T N sc o eo && chkA T N sc as es))))
  | _ => false
mutual
def chkS (T : Tb) (N : List Str) (sc : Scope) : Sm → Stmt → Bool
  | .asg t a, s => (match s with
    | .Assign [tg] e _ => noSwap sc tg e && (tgB N sc fnT t tg && (chkE T N sc a e && ((!isComp e || offLoc sc tg) || (isCoM a && compTo sc tg e))))
    | _ => false)
  | .own i a, s => (match s with
    | .Assign [.Name x ps] e _ => decide (N[i]? = some x) && (stB sc fnT x && (isFr a && (chkE T N sc a e && ((!isComp e || offLoc sc (.Name x ps)) || (isCo a && compTo sc (.Name x ps) e)))))
    | _ => false)
  | .par is as, s => (match s with
    | .Assign [.Tuple ts _ _] (.Tuple vs _ _) _ => par2 N sc is ts vs && chkA T N sc as vs
    | _ => false)
  | .setf o f a, s => (match s with
    | .Assign [.Attribute eo f' _] e _ => decide (f = f') && (chkE T N sc o eo && chkE T N sc a e)
    | _ => false)
  | .seti o k a, s => (match s with
    | .Assign [.Subscript eo ek _] e _ => notSl ek && (chkE T N sc o eo && (chkE T N sc k ek && chkE T N sc a e))
    | _ => false)
  | .app o a, s => (match s with
    | .Expr (.Call (.Attribute eo m apos) [e] [] cp) _ => decide (m = "append") && (noCall eo && ((apos.endLine == cp.line) && (!isStar e && (chkE T N sc o eo && chkE T N sc a e))))
    | _ => false)
  | .pop none o as, s => (match s with
    | .Expr e _ => chkP T N sc o as e
    | _ => false)
  | .pop (some t) o as, s => (match s with
    | .Assign [tg] e _ => tgB N sc fnT t tg && (noSwap sc tg e && chkP T N sc o as e)
    | _ => false)
  | .expr a, s => (match s with
    | .Expr e _ => !isComp e && chkE T N sc a e
    | _ => false)
  | .aug i o a, s => (match s with
    | .AugAssign (.Name x _) o' e _ => decide (N[i]? = some x) && (stB sc fnT x && (decide (o = o') && chkE T N sc a e))
    | _ => false)
  | .augf o f p a, s => (match s with
    | .AugAssign (.Attribute eo f' _) p' e _ => decide (f = f') && (decide (p = p') && (chkE T N sc o eo && chkE T N sc a e))
    | _ => false)
  | .ife c a b, s => (match s with
    | .If ec sa sb _ => chkE T N sc c ec && (chkSs T N sc a sa && chkSs T N sc b sb)
    | _ => false)
  | .for_ t it b, s => (match s with
    | .For tg iter body [] _ => noSet iter && (tgB N sc fnT t tg && (chkI T N sc it tg iter && chkSs T N sc b body))
    | _ => false)
  | .while_ c b, s => (match s with
    | .While ec body [] _ => chkE T N sc c ec && chkSs T N sc b body
    | _ => false)
  | .ret a, s => (match s with
    | .Return (some e) _ => chkE T N sc a e
    | _ => false)
  | .retN, s => (match s with
    | .Return none _ => true
    | _ => false)
  | .brk, s => (match s with
    | .Break _ => true
    | _ => false)
  | .cnt, s => (match s with
    | .Continue _ => true
    | _ => false)
  | .pass, s => (match s with
    | .Pass _ => true
    | .Expr (.Constant (.str _) _ _) _ => true
    | _ => false)
def chkSs (T : Tb) (N : List Str) (sc : Scope) : Sms → List Stmt → Bool
  | .nil, ss => (match ss with
    | [] => true
    | _ => false)
  | .cons s r, ss => (match ss with
    | st :: ss => chkS T N sc s st && chkSs T N sc r ss
    | _ => false)
  | .frz _ r, ss => chkSs T N sc r ss
end
section
variable {p : Pg} {N : List Str} {sc : Scope} {k : Nat} {X : Cx} {G : Fns} {T : Tb}
theorem comp_parts (tb : TbOk p T) (gf : GoodF p k G) {t : Tg} {it : It} {c : Ar} {a : Ex} {e : Expr} {fn : Str → Bool} (h : chkE T N sc (.comp t it c a) e = true) (g : Good p N sc fn (k + 1) X) : ∃ elt tg iter ifs scope pos, e = .ListComp elt [⟨tg, iter, ifs, 0⟩] scope pos ∧ BlkOk N sc scope (ownL N t) ∧
    (∀ ρ S, FI p X ρ S tg iter (evI G it ρ S)) ∧ (∀ X', Good p N (relS scope sc) (fnB scope) (k + 1) X' → FG p X' t tg) ∧ FC p G (Good p N (relS scope sc) (fnB scope) (k + 1)) ifs c ∧
    (∀ X', Good p N (relS scope sc) (fnB scope) (k + 1) X' → ∀ ρ S, FE p X' ρ S elt (evE G a ρ S)) ∧ ∀ x, foldedSetIterable iter X.env x = pure x := by
  unfold chkE at h; split at h
  · simp only [Bool.and_eq_true, decide_eq_true_eq] at h
    obtain ⟨rfl, h1, h2, h3, h4, h5, h6, h7⟩ := h
    have hi := sI tb gf it h5 g
    rename_i elt tg iter ifs scope pos
    have hc : ∀ X', Good p N (relS scope sc) (fnB scope) (k + 1) X' → OkA p X' G ifs c := fun X' g' => sA tb gf c h6 g'
    have he : ∀ X', Good p N (relS scope sc) (fnB scope) (k + 1) X' → Ok4 p X' G elt a := fun X' g' => sE tb gf a h7 g'
    have fc : FC p G (Good p N (relS scope sc) (fnB scope) (k + 1)) ifs c := by
      cases c with
      | nil =>
        cases ifs with
        | nil => exact .nil
        | cons _ _ => cases h6
      | cons c1 cr =>
        cases ifs with
        | nil => cases h6
        | cons f fs =>
          cases fs with
          | cons _ _ => simp at h4
          | nil =>
            cases cr with
            | cons _ _ =>
              have h6 := (Bool.and_eq_true_iff.mp (Bool.and_eq_true_iff.mp h6).2).2
              cases h6
            | nil =>
              refine .one fun X' g' ρ S => ?_
              have q := hc X' g'
              cases q with
              | cons _ q _ => exact q.ft ρ S
    exact ⟨elt, tg, iter, ifs, scope, pos, rfl, blkOk_by h1, hi, fun X' g' => tg_ok h2 g', fc, fun X' g' ρ S => (he X' g').fe ρ S, fold_ok h3⟩
  · cases h
theorem comp_loc {x : Str} {ps cp : Pos} {scope : Scope} (h : swapC sc x ps cp scope = true) : sc.names.lookup x = some .local := by
  unfold swapC at h
  simp only [Bool.and_eq_true, decide_eq_true_eq] at h
  exact h.1
theorem tg_name {i : Nat} {t : Tg} {x : Str} {ps : Pos} {fn : Str → Bool} (h : tgB N sc fn t (.Name x ps) = true) : ∃ i, t = .nm i ∧ N[i]? = some x := by
  cases t with
  | nm i =>
    have h : (decide (N[i]? = some x) && stB sc fn x) = true := h
    rw [Bool.and_eq_true, decide_eq_true_eq] at h
    exact ⟨i, rfl, h.1⟩
  | nms is => cases h
theorem sP (tb : TbOk p T) (gf : GoodF p k G) {o : Ex} {as : Ar} {e : Expr} {fn : Str → Bool} (h : chkP T N sc o as e = true) (g : Good p N sc fn (k + 1) X) : isComp e = false ∧ ∀ ρ S, FP p X ρ S e (evP G o as ρ S) := by
  unfold chkP at h; split at h
  · simp only [Bool.and_eq_true, decide_eq_true_eq] at h
    obtain ⟨rfl, h2, h3, h4, h5, h6⟩ := h
    have ho := sE tb gf o h5 g
    have ha := sA tb gf as h6 g
    refine ⟨rfl, fun ρ S => ?_⟩
    cases ha with
    | nil => exact fp_pop0 g (attr_ok h2) h3 (ho.fh ρ S)
    | cons s1 a1 ha =>
      cases ha with
      | nil => exact fp_pop1 g (m1_ok h2 s1 h3) s1 (ho.fh ρ S) fun S => a1.fe ρ S
      | cons s2 a2 ha =>
        cases ha with
        | nil => exact fp_pop2 g (m2_ok h2 s1 s2 h3) (ho.fh ρ S) (fun S => a1.fe ρ S) fun S => a2.fe ρ S
        | cons _ _ _ => simp at h4
  · cases h
theorem set_tree {eo ek : Expr} {ps : Pos} {env : Env} (h : notSl ek = true) (v : Value) : assign (.Subscript eo ek ps) env v = (do
      let ov ← holding [v] (eval eo env)
      let iv ← holding [v, ov] (eval ek env)
      standAt ps
      holding [v, ov, iv] (setItem ov iv v)
      release [v, ov, iv] []) := by
  cases ek <;> first | rfl | cases h
theorem sPar (hk : sc.kind = .function) {is : List Nat} {ts vs : List Expr} {kt k2 : Nat} {pt pt2 pos : Pos} {as : Ar} (h : par2 N sc is ts vs = true) (g : Good p N sc fnT (k + 1) X) (ha : OkA p X G vs as) : ∀ ρ S, FS p X ρ S (.Assign [.Tuple ts kt pt] (.Tuple vs k2 pt2) pos) (evS G (.par is as) ρ S) := by
  unfold par2 at h; split at h
  · simp only [Bool.and_eq_true, decide_eq_true_eq] at h
    obtain ⟨h1, h2, h3, h4⟩ := h
    have hw := ss_two (kt := kt) (k2 := k2) (pt := pt) (pt2 := pt2) g.sc hk h4
    unfold swap2 at h4
    simp only [Bool.and_eq_true, decide_eq_true_eq] at h4
    obtain ⟨l1, l2, _, _, l5, _⟩ := h4
    match vs, l5, ha with
    | [e1, e2], _, ha => exact fun ρ S => fs_par2 g h1 h2 h3 l1 l2 hw (sws_tg (.inl rfl)) (ha.fa ρ S)
  · simp only [Bool.and_eq_true, decide_eq_true_eq] at h
    obtain ⟨h1, h2, h3, h4, h5⟩ := h
    have hw := ss_three (kt := kt) (k2 := k2) (pt := pt) (pt2 := pt2) g.sc hk h5
    unfold swap3 at h5
    simp only [Bool.and_eq_true, decide_eq_true_eq] at h5
    obtain ⟨l1, l2, l3, _, _, _, l5, _⟩ := h5
    match vs, l5, ha with
    | [e1, e2, e3], _, ha => exact fun ρ S => fs_par3 g h1 h2 h3 h4.1 h4.2.1 h4.2.2 l1 l2 l3 hw (sws_tg (.inl rfl)) (ha.fa ρ S)
  · cases h
mutual
theorem sS (tb : TbOk p T) (gf : GoodF p k G) (hk : sc.kind = .function) : ∀ (s : Sm) {st : Stmt} {X : Cx}, chkS T N sc s st = true → Good p N sc fnT (k + 1) X → ∀ ρ S, FS p X ρ S st (evS G s ρ S)
  | .asg t a, st, X, h, g => by
    unfold chkS at h; split at h
    · simp only [Bool.and_eq_true] at h
      obtain ⟨h1, h2, h3, h4⟩ := h
      rw [Bool.or_eq_true] at h4
      rcases h4 with h4 | h4
      · rw [Bool.or_eq_true, Bool.not_eq_true'] at h4
        have h5 := h4
        exact fun ρ S => fs_asg (sws_off g.sc h5) (ss_no g.sc h1) (tg_nm h2) (tg_ok h2 g) ((sE tb gf a h3 g).fe ρ S)
      · rw [Bool.and_eq_true] at h4
        obtain ⟨h4, h5⟩ := h4
        unfold compTo at h5
        split at h5
        · obtain ⟨i, rfl, hN⟩ := tg_name (i := 0) h2
          cases a <;> try cases h4
          · obtain ⟨elt, tg, iter, ifs, scope, pos, e, ok, hi, hg, fc, he, hs⟩ := comp_parts tb gf h3 g
            cases e
            exact fun ρ S => fs_asgC g (sw_comp g.sc hk h5) hN (comp_loc h5) (hi ρ S) ok own_ix hg fc he hs
          · rename_i a
            cases a <;> try cases h4
            unfold chkE at h3
            rw [Bool.and_eq_true] at h3
            obtain ⟨elt, tg, iter, ifs, scope, pos, e, ok, hi, hg, fc, he, hs⟩ := comp_parts tb gf h3.2 g
            cases e
            exact fun ρ S => fs_asgCm g (sw_comp g.sc hk h5) hN (comp_loc h5) (hi ρ S) ok own_ix hg fc he hs
        · cases h5
    · cases h
  | .own i a, st, X, h, g => by
    unfold chkS at h; split at h
    · simp only [Bool.and_eq_true, decide_eq_true_eq] at h
      obtain ⟨h1, h2, h3, h4, h5⟩ := h
      obtain ⟨l, f⟩ := st_ok h2
      rw [Bool.or_eq_true] at h5
      rcases h5 with h5 | h5
      · rw [Bool.or_eq_true, Bool.not_eq_true'] at h5
        exact fun ρ S => fs_own g (sw_off g.sc h5) h1 l f ((sE tb gf a h4 g).fn h3 ρ S)
      · rw [Bool.and_eq_true] at h5
        obtain ⟨h5, h6⟩ := h5
        cases a <;> try cases h5
        obtain ⟨elt, tg, iter, ifs, scope, pos, e, ok, hi, hg, fc, he, hs⟩ := comp_parts tb gf h4 g
        cases e
        exact fun ρ S => fs_ownC g (sw_comp g.sc hk h6) h1 (comp_loc h6) (hi ρ S) ok own_ix hg fc he hs
    · cases h
  | .par is as, st, X, h, g => by
    unfold chkS at h; split at h
    · rw [Bool.and_eq_true] at h
      exact sPar hk h.1 g (sA tb gf as h.2 g)
    · cases h
  | .setf o f a, st, X, h, g => by
    unfold chkS at h; split at h
    · simp only [Bool.and_eq_true, decide_eq_true_eq] at h
      obtain ⟨rfl, h2, h3⟩ := h
      exact fun ρ S => fs_setf g gf.toFldOk (sw_tg (.inr rfl)) (fun S => (sE tb gf o h2 g).fe ρ S) ((sE tb gf a h3 g).fe ρ S)
    · cases h
  | .seti o kx a, st, X, h, g => by
    unfold chkS at h; split at h
    · simp only [Bool.and_eq_true] at h
      obtain ⟨h1, h2, h3, h4⟩ := h
      exact fun ρ S => fs_seti g (sws_tg (.inr rfl)) (ss_no g.sc rfl) (set_tree h1) (fun S => (sE tb gf o h2 g).fh ρ S) (fun S => (sE tb gf kx h3 g).fe ρ S) ((sE tb gf a h4 g).fe ρ S)
    · cases h
  | .app o a, st, X, h, g => by
    unfold chkS at h; split at h
    · simp only [Bool.and_eq_true, decide_eq_true_eq, Bool.not_eq_true'] at h
      obtain ⟨rfl, h2, h3, h4, h5, h6⟩ := h
      exact fun ρ S => fs_app g (sw_no rfl) (attr_ok h2) h3 h4 ((sE tb gf o h5 g).fh ρ S) fun S => (sE tb gf a h6 g).fe ρ S
    · cases h
  | .pop none o as, st, X, h, g => by
    unfold chkS at h; split at h
    · obtain ⟨c, q⟩ := sP tb gf h g
      exact fun ρ S => fs_pop (sw_no c) (q ρ S)
    · cases h
  | .pop (some t) o as, st, X, h, g => by
    unfold chkS at h; split at h
    · simp only [Bool.and_eq_true] at h
      obtain ⟨h1, h2, h3⟩ := h
      obtain ⟨c, q⟩ := sP tb gf h3 g
      exact fun ρ S => fs_popT (sws_tg (.inl c)) (ss_no g.sc h2) (tg_nm h1) (tg_ok h1 g) (q ρ S)
    · cases h
  | .expr a, st, X, h, g => by
    unfold chkS at h; split at h
    · simp only [Bool.and_eq_true, Bool.not_eq_true'] at h
      exact fun ρ S => fs_expr (sw_no h.1) ((sE tb gf a h.2 g).fe ρ S)
    · cases h
  | .aug i o a, st, X, h, g => by
    unfold chkS at h; split at h
    · simp only [Bool.and_eq_true, decide_eq_true_eq] at h
      obtain ⟨h1, h2, rfl, h3⟩ := h
      obtain ⟨l, f⟩ := st_ok h2
      exact fun ρ S => fs_aug g h1 l f ((sE tb gf a h3 g).fe ρ S)
    · cases h
  | .augf o f p a, st, X, h, g => by
    unfold chkS at h; split at h
    · simp only [Bool.and_eq_true, decide_eq_true_eq] at h
      obtain ⟨rfl, rfl, h2, h3⟩ := h
      exact fun ρ S => fs_augf g gf.toFldOk ((sE tb gf o h2 g).fe ρ S) (fun S => (sE tb gf a h3 g).fe ρ S)
    · cases h
  | .ife c a b, st, X, h, g => by
    unfold chkS at h; split at h
    · simp only [Bool.and_eq_true] at h
      obtain ⟨h1, h2, h3⟩ := h
      exact fun ρ S => fs_ife ((sE tb gf c h1 g).ft ρ S) (sSs tb gf hk a h2 g) (sSs tb gf hk b h3 g)
    · cases h
  | .for_ t it b, st, X, h, g => by
    unfold chkS at h; split at h
    · simp only [Bool.and_eq_true] at h
      obtain ⟨h1, h2, h3, h4⟩ := h
      exact fun ρ S => fs_for g (sI tb gf it h3 g ρ S) (tg_ok h2 g) (sSs tb gf hk b h4 g) (fold_ok h1)
    · cases h
  | .while_ c b, st, X, h, g => by
    unfold chkS at h; split at h
    · simp only [Bool.and_eq_true] at h
      exact fun ρ S => fs_while g (sE tb gf c h.1 g).ft (sSs tb gf hk b h.2 g)
    · cases h
  | .ret a, st, X, h, g => by
    unfold chkS at h; split at h
    · exact fun ρ S => fs_ret ((sE tb gf a h g).fe ρ S)
    · cases h
  | .retN, st, X, h, g => by
    unfold chkS at h; split at h
    · exact fun ρ S => fs_retN
    · cases h
  | .brk, st, X, h, g => by
    unfold chkS at h; split at h
    · exact fun ρ S => fs_brk
    · cases h
  | .cnt, st, X, h, g => by
    unfold chkS at h; split at h
    · exact fun ρ S => fs_cnt
    · cases h
  | .pass, st, X, h, g => by
    unfold chkS at h; split at h
    · exact fun ρ S => fs_pass
    · exact fun ρ S => fs_doc
    · cases h
theorem sSs (tb : TbOk p T) (gf : GoodF p k G) (hk : sc.kind = .function) : ∀ (s : Sms) {ss : List Stmt} {X : Cx}, chkSs T N sc s ss = true → Good p N sc fnT (k + 1) X → ∀ ρ S, FSs p X ρ S ss (evSs G s ρ S)
  | .nil, ss, X, h, g => by
    unfold chkSs at h; split at h
    · exact fun ρ S => fss_nil
    · cases h
  | .cons s r, ss, X, h, g => by
    unfold chkSs at h; split at h
    · rw [Bool.and_eq_true] at h
      exact fun ρ S => fss_cons (sS tb gf hk s h.1 g ρ S) (sSs tb gf hk r h.2 g)
    · cases h
  | .frz i r, ss, X, h, g => by
    unfold chkSs at h
    exact fun ρ S => fss_frz (sSs tb gf hk r h g)
end
end
end Z

set_option Elab.async false
set_option linter.all false
set_option maxRecDepth 100000
set_option maxHeartbeats 4000000
namespace Z
open PySem PySem.Spec PyProof.Rows L2

/-! # plain parameters -/
theorem zip_look {us : List Value} : ∀ {ps : List Str}, ps.Nodup → us.length = ps.length → ps.filterMap (fun n => ((ps.zip us).lookup n).map fun v => (n, v)) = ps.zip us := by
  induction us with
  | nil => intro ps _ h; cases ps with | nil => rfl | cons _ _ => cases h
  | cons u us ih =>
    intro ps nd h
    cases ps with
    | nil => cases h
    | cons p ps =>
      rw [List.nodup_cons] at nd
      have h' : us.length = ps.length := by simpa using h
      rw [List.zip_cons_cons, List.filterMap_cons, List.lookup_cons_self]
      simp only [Option.map_some]
      congr 1
      have key : ∀ l : List Str, (∀ x ∈ l, x ≠ p) → l.filterMap (fun n => (List.lookup n ((p, u) :: ps.zip us)).map fun v => (n, v)) = l.filterMap (fun n => (List.lookup n (ps.zip us)).map fun v => (n, v)) := by
        intro l
        induction l with
        | nil => intro _; rfl
        | cons x l ihl =>
          intro hx
          have e : (x == p) = false := by simpa using hx x List.mem_cons_self
          rw [List.filterMap_cons, List.filterMap_cons, List.lookup_cons, e, ihl fun y hy => hx y (List.mem_cons_of_mem _ hy)]
      rw [key ps fun x hx z => nd.1 (by rw [← z]; exact hx)]
      exact ih nd.2 h'
theorem miss_nil {us : List Value} : ∀ {ps : List Str}, us.length = ps.length → ∀ n ∈ ps, ((ps.zip us).lookup n).isNone = false := by
  induction us with
  | nil => intro ps h; cases ps with | nil => intro n hn; cases hn | cons _ _ => cases h
  | cons u us ih =>
    intro ps h n hn
    cases ps with
    | nil => cases h
    | cons p ps =>
      rw [List.zip_cons_cons, List.lookup_cons]
      cases e : n == p with
      | true => rfl
      | false =>
        refine ih (by simpa using h) n ?_
        rcases List.mem_cons.mp hn with z | z
        · rw [z] at e; simp at e
        · exact z
theorem bind_plain {fd : FuncData} {as : List Arg} {ps : List Str} {us : List Value} (hp : fd.params = ⟨[], as, none, [], [], none, []⟩) (hd : fd.defaults = .none) (hn : as.map (·.arg) = ps) (nd : ps.Nodup) (hl : us.length = ps.length) : bindArgs fd ⟨us, []⟩ = pure (ps.zip us) := by
  unfold bindArgs
  have e1 : seqItems? Value.none = pure none := rfl
  have e2 : (ps.filter fun n => (List.lookup n (ps.zip us)).isNone) = [] := by
    rw [List.filter_eq_nil_iff]
    intro n hn
    rw [miss_nil hl n hn]; simp
  have e3 : ¬ (us.length > ps.length) := by omega
  have e4 := zip_look nd hl
  simp only [hp, hd, hn, e1, List.map_nil, List.nil_append, List.append_nil, List.forIn_nil, pure_bind, Option.getD_none, List.length_nil, Nat.sub_zero, List.take_length, List.drop_length, List.zip_nil_left, List.zip_nil_right, List.drop_nil, e2, List.isEmpty_nil, Bool.not_true, Bool.false_eq_true, if_false, decide_eq_false e3, Bool.false_and, e4]

/-! # the top's facts -/
def Cst.v : Cst → V
  | .non => .non | .bl b => .bl b | .int i => .int i | .str x => .str x
def seqO (o : Obj) : Bool := match o.data with
  | .seq _ _ => true
  | _ => false
/-- the written part, without lists and tuples -/
def frZ (g : Addr → Option Obj) (as : List Addr) : PySem.W.Frag := (He.frG g as).filter fun q => !seqO q.2
theorem mem_of_look {a : Addr} {o : Obj} : ∀ {l : List (Addr × Obj)}, l.lookup a = some o → (a, o) ∈ l
  | (b, u) :: r, h => by
    rw [List.lookup_cons] at h
    split at h
    · rename_i e
      cases h
      rw [eq_of_beq e]
      exact List.mem_cons_self
    · exact List.mem_cons_of_mem _ (mem_of_look h)
theorem frZ_mem {g : Addr → Option Obj} {as : List Addr} {a : Addr} {o : Obj} (h : (frZ g as).lookup a = some o) : g a = some o ∧ seqO o = false := by
  obtain ⟨h1, h2⟩ := List.mem_filter.mp (mem_of_look h)
  refine ⟨?_, by simpa using h2⟩
  unfold He.frG at h1
  obtain ⟨b, _, e⟩ := List.mem_filterMap.mp h1
  obtain ⟨u, e1, e2⟩ := Option.map_eq_some_iff.mp e
  cases e2
  exact e1
/-- a constant of the top: its value; a tuple's things -/
def conB (K : PySem.W.Frag) (g : Addr → Option Obj) (q : Str × GC) : Bool := match PySem.W.nsIn K mainGlobals q.1 with
  | some (some u) => (match q.2 with
    | .one c => He.relB c.v u
    | .many cs => (match u with
      | .ref a => (match g a with
        | some ⟨.type c, _, .seq its _, _⟩ => decide (c = "tuple") && (decide (its.size ≤ sizeLine) && (He.relAll (cs.map Cst.v) its.toList))
        | _ => false)
      | _ => false))
  | _ => false
structure DefR where
  d : He.DefD
  N : List Str
  np : Nat
  body : Sms
structure Conf where
  rs : List DefR
  flds : List (Str × List Str)
  bn : List Str
  cs : List (Str × GC)
def Conf.prog (c : Conf) : Prog := ⟨c.rs.map fun r => (r.d.at_, ⟨r.np, r.N.length, r.body⟩), c.flds⟩
def Conf.tb (c : Conf) : Tb := ⟨c.cs, c.bn⟩
def defFa (r : DefR) : List He.Fa := match r.d.at_ with
  | (x, none) => [.glo x, .keep x]
  | (C, some m) => [.glo C, .cls C, .meth C m] ++ if m = "__init__" then [.mkr C] else []
def Conf.fa (c : Conf) : List He.Fa := c.rs.flatMap defFa ++ (c.flds.flatMap fun q => .cls q.1 :: q.2.map (.noat q.1 ·)) ++ c.bn.map .free
def Conf.fn (c : Conf) : List He.DefD := c.rs.map (·.d)
def obsZ (n : Nat) (c : Conf) (g : Addr → Option Obj) : He.AlD := let K := frZ g (He.asD g n)
  ((He.obsD c.fa c.fn K).1 && c.cs.all (conB K g), (He.obsD c.fa c.fn K).2)
def SaysZ (c : Conf) (h : Heap) : Prop := ∃ K : PySem.W.Frag, K.In h ∧ (∀ a o, K.lookup a = some o → seqO o = false) ∧ He.SaysD c.fa c.fn K ∧ ∀ q ∈ c.cs, conB K h.get? q = true
def hookZ (n : Nat) (c : Conf) : PySem.W.Hook where
  α := He.AlD
  obs := fun s => obsZ n c s.heap.get?
  val := fun _ => He.valD c.fn
  says := fun _ h => SaysZ c h
  of := fun _ s e => by
    have e0 : obsZ n c s.heap.get? = He.valD c.fn := e
    have e1 : (obsZ n c s.heap.get?).1 = true := by rw [e0]; rfl
    have e2 : (obsZ n c s.heap.get?).2 = (He.valD c.fn).2 := by rw [e0]
    have e1 : ((He.obsD c.fa c.fn (frZ s.heap.get? (He.asD s.heap.get? n))).1 && c.cs.all (conB (frZ s.heap.get? (He.asD s.heap.get? n)) s.heap.get?)) = true := e1
    rw [Bool.and_eq_true] at e1
    refine ⟨_, fun a o h => (frZ_mem h).1, fun a o h => (frZ_mem h).2, ?_, fun q hq => List.all_eq_true.mp e1.2 q hq⟩
    show He.obsD c.fa c.fn _ = He.valD c.fn
    exact Prod.ext e1.1 e2
  keeps := fun _ h h' ⟨K, hK, hs, c1, c2⟩ k => ⟨K, PySem.W.Frag.In.keeps hK k, hs, c1, fun q hq => by
    have z := c2 q hq
    unfold conB at z ⊢
    split at z
    · split at z
      · exact z
      · split at z
        · split at z
          · rename_i e
            rw [k _ _ e]
            exact z
          · cases z
        · cases z
    · cases z⟩
theorem obsZ_eq {n : Nat} {c : Conf} {g : Addr → Option Obj} {s : Shared} (h : ∀ a, g a = s.heap.get? a) : obsZ n c g = (hookZ n c).obs s := by
  have e : g = s.heap.get? := funext h
  rw [e] <;> rfl

/-! # the defs' check -/
def paramsB (p : Arguments) (ps : List Str) : Bool := p.posonlyargs.isEmpty && (p.vararg.isNone && (p.kwonlyargs.isEmpty && (p.kw_defaults.isEmpty && (p.kwarg.isNone && (p.defaults.isEmpty && decide (p.args.map (·.arg) = ps))))))
def scopeB (N ps : List Str) (sc : Scope) : Bool := decide (sc.kind = .function) && (!sc.isCoroutine && (!sc.isGenerator && (decide N.Nodup && (decide (N.take ps.length = ps) && ((ps.all fun x => match sc.names.lookup x with
  | some .local => true | some .cell => true
  | _ => false) && sc.names.all fun y => match y.2 with
  | .free => false
  | _ => true)))))
def chkDef (tb : Tb) (r : DefR) : Bool := decide (r.np ≤ r.N.length) && (paramsB r.d.params (r.N.take r.np) && (scopeB r.N (r.N.take r.np) r.d.scope && (r.d.dfl.isEmpty && (r.d.kwd.isEmpty && chkSs tb r.N r.d.scope r.body r.d.body))))
def Conf.ok (c : Conf) : Bool := c.rs.all (chkDef c.tb) && (decide (c.cs.map (·.1)).Nodup && decide (c.rs.map fun r => r.d.at_).Nodup)
theorem scope_ok {N ps : List Str} {sc : Scope} (h : scopeB N ps sc = true) : FnScope N ps sc := by
  unfold scopeB at h
  simp only [Bool.and_eq_true, decide_eq_true_eq, Bool.not_eq_true'] at h
  obtain ⟨h1, h2, h3, h4, h5, h6, h7⟩ := h
  refine ⟨h1, h2, h3, h4, h5, fun x hx => ?_, fun y hy e => ?_⟩
  · have := List.all_eq_true.mp h6 x hx
    split at this
    · exact .inl (by assumption)
    · exact .inr (by assumption)
    · cases this
  · have := List.all_eq_true.mp h7 y hy
    rw [e] at this
    cases this
theorem params_ok {p : Arguments} {ps : List Str} (h : paramsB p ps = true) : ∃ as : List Arg, p = ⟨[], as, none, [], [], none, []⟩ ∧ as.map (·.arg) = ps := by
  obtain ⟨a1, a2, a3, a4, a5, a6, a7⟩ := p
  unfold paramsB at h
  simp only [Bool.and_eq_true, decide_eq_true_eq, List.isEmpty_iff, Option.isNone_iff_eq_none] at h
  obtain ⟨rfl, rfl, rfl, rfl, rfl, rfl, h⟩ := h
  exact ⟨a2, rfl, h⟩
def Conf.pg (c : Conf) (P : Program) (w : World) (K : PySem.W.Frag) (mg : Str → Option Value) (base : Heap) : Pg := ⟨P, w, K, mg, base, fun C => some (He.ga K C), fun x => (c.cs.lookup x).map GC.d⟩
section
variable {c : Conf} {P : Program} {w : World} {K : PySem.W.Frag} {mg : Str → Option Value} {base : Heap}
theorem look_nd {κ β : Type} [BEq κ] [LawfulBEq κ] {x : κ} {y : β} : ∀ {l : List (κ × β)}, (l.map (·.1)).Nodup → (x, y) ∈ l → l.lookup x = some y
  | (a, b) :: l, nd, h => by
    rw [List.map_cons, List.nodup_cons] at nd
    rw [List.lookup_cons]
    rcases List.mem_cons.mp h with e | h
    · cases e
      simp
    · have : (x == a) = false := by
        rw [beq_eq_false_iff_ne]
        intro z
        rw [z] at h
        exact nd.1 (List.mem_map.mpr ⟨_, h, rfl⟩)
      rw [this]
      exact look_nd nd.2 h
theorem mem_of_lookup' {κ β : Type} [BEq κ] [LawfulBEq κ] {x : κ} {y : β} : ∀ {l : List (κ × β)}, l.lookup x = some y → (x, y) ∈ l
  | (a, b) :: l, h => by
    rw [List.lookup_cons] at h
    split at h
    · rename_i e
      cases h
      rw [eq_of_beq e]
      exact List.mem_cons_self
    · exact List.mem_cons_of_mem _ (mem_of_lookup' h)
theorem level (ok : c.ok = true) (says : He.SaysD c.fa c.fn K) (X : K.In base) (G : base.Ns mainGlobals mg) : ∀ n, GoodF (c.pg P w K mg base) (2 * n) (run c.prog n) := by
  have facts : ∀ f ∈ c.fa, f.ok K = true := fun f hf => by
    obtain ⟨i, hi, he⟩ := List.getElem_of_mem hf
    exact says.fact i (by rw [List.getElem?_eq_getElem hi, he])
  unfold Conf.ok at ok
  simp only [Bool.and_eq_true, decide_eq_true_eq] at ok
  obtain ⟨ok1, ok2, ok3⟩ := ok
  have tbok : TbOk (c.pg P w K mg base) c.tb := {
    con := fun x g h => by
      show (c.cs.lookup x).map GC.d = _
      rw [look_nd ok2 h]; rfl
    bn := fun x h => He.free_ok X G (facts _ (by unfold Conf.fa; simp only [List.mem_append, List.mem_map]; exact .inr ⟨x, h, rfl⟩)) }
  have fld : ∀ n, FldOk (c.pg P w K mg base) (run c.prog n) := fun n => {
    fld := fun C f Ca h hC => by
      cases hC
      have h : c.prog.fld C f = true := h
      unfold Prog.fld at h
      split at h
      · rename_i l hl
        have hm := mem_of_lookup' hl
        have hf : f ∈ l := of_decide_eq_true h
        refine ⟨He.cls_ok (facts (.cls C) ?_), He.noat_ok (facts (.noat C f) ?_)⟩
        · unfold Conf.fa
          simp only [List.mem_append, List.mem_flatMap]
          exact .inl (.inr ⟨_, hm, List.mem_cons_self⟩)
        · unfold Conf.fa
          simp only [List.mem_append, List.mem_flatMap]
          exact .inl (.inr ⟨_, hm, List.mem_cons_of_mem _ (List.mem_map.mpr ⟨f, hf, rfl⟩)⟩)
      · cases h }
  intro n
  induction n with
  | zero =>
    refine { toFldOk := fld 0, fn := fun x ds S r h => ?_, mt := fun C m ds S r h => ?_ }
    · cases h
    · cases h
  | succ n ih =>
    -- each def
    have one : ∀ {key : Str × Option Str} {fd : Fd}, c.prog.defs.lookup key = some fd → ∃ r ∈ c.rs, r.d.at_ = key ∧ ∃ fdt, He.fAd K key = He.fAd K key ∧ PySem.W.keepIn K (.ref (He.fAd K key)) = true ∧ Binds K fdt (r.N.take r.np) [] ∧
        FnG (c.pg P w K mg base) (2 * (n + 1)) (He.fAd K key) fdt (r.N.take r.np) (runF c.prog (n + 1) key) := fun {key fd} hl => by
      have hm := mem_of_lookup' hl
      obtain ⟨r, hr, e⟩ := List.mem_map.mp hm
      cases e
      have hc := List.all_eq_true.mp ok1 r hr
      unfold chkDef at hc
      simp only [Bool.and_eq_true, decide_eq_true_eq, List.isEmpty_iff] at hc
      obtain ⟨c1, c2, c3, c4, c5, c6⟩ := hc
      have sc := scope_ok c3
      obtain ⟨as, p1, p2⟩ := params_ok c2
      obtain ⟨i, hi, he⟩ := List.getElem_of_mem hr
      obtain ⟨fdt, F⟩ := says.def_ i (d := r.d) (by show (c.rs.map (·.d))[i]? = _; rw [List.getElem?_map, List.getElem?_eq_getElem hi, he]; rfl)
      have F : FunD K r.d.name r.d.qual r.d.params r.d.body r.d.scope [] [] (He.fAd K r.d.at_) fdt := by
        have e1 : r.d.dvs K = [] := by unfold He.DefD.dvs; rw [c4]; rfl
        have e2 : r.d.kws K = [] := by unfold He.DefD.kws; rw [c5]; rfl
        rw [e1, e2] at F; exact F
      have nd : (r.N.take r.np).Nodup := sc.nd.sublist (List.take_sublist _ _)
      refine ⟨r, hr, rfl, fdt, rfl, F.kp, F.bindsN fun kV doc pm an cdv ct us hu => bind_plain p1 rfl p2 nd hu, ?_⟩
      obtain ⟨oc, od, dV, kV, doc, pm, an, cdv, ct, osl, rfl, lk, hcd, _, _⟩ := F.ex
      have hlen : (r.N.take r.np).length = r.np := by rw [List.length_take]; omega
      have D := def_ok (p := c.pg P w K mg base) (k := 2 * n + 1) lk hcd sc (r := evSs (run c.prog n) r.body) fun X' g' => sSs tbok ih sc.kind r.body c6 g'
      have e : (fun ds S => if ds.length = (r.N.take r.np).length then (evSs (run c.prog n) r.body (stS r.N (r.N.take r.np) ds) S).bind outR else none) = runF c.prog (n + 1) r.d.at_ := by
        funext ds S
        show _ = (match c.prog.defs.lookup r.d.at_ with
          | some fd => _
          | none => none)
        rw [hl]
        simp only [hlen, stS]
        congr 2
      rw [e] at D
      exact D
    refine { toFldOk := fld _, fn := fun x ds S r h => ?_, mt := fun C m ds S r h => ?_ }
    · have h : runF c.prog (n + 1) (x, none) ds S = some r := h
      cases hl : c.prog.defs.lookup (x, none) with
      | none => unfold runF at h; rw [hl] at h; cases h
      | some fd =>
        obtain ⟨r, hr, e, fdt, _, kp, bd, D⟩ := one hl
        refine ⟨_, fdt, _, He.glo_ok X G (facts (.glo x) ?_), kp, bd, D⟩
        unfold Conf.fa
        simp only [List.mem_append, List.mem_flatMap]
        refine .inl (.inl ⟨r, hr, ?_⟩)
        unfold defFa
        rw [e]
        exact List.mem_cons_self
    · have h : runF c.prog (n + 1) (C, some m) ds S = some r := h
      cases hl : c.prog.defs.lookup (C, some m) with
      | none => unfold runF at h; rw [hl] at h; cases h
      | some fd =>
        obtain ⟨r, hr, e, fdt, _, kp, bd, D⟩ := one hl
        have mem : ∀ f ∈ defFa r, f.ok K = true := fun f hf => facts f (by
          unfold Conf.fa
          simp only [List.mem_append, List.mem_flatMap]
          exact .inl (.inl ⟨r, hr, hf⟩))
        have e3 : defFa r = [.glo C, .cls C, .meth C m] ++ if m = "__init__" then [.mkr C] else [] := by unfold defFa; rw [e]
        rw [e3] at mem
        refine ⟨He.ga K C, He.fAd K (C, some m), fdt, _, He.glo_ok X G (mem _ (by simp)), rfl, He.cls_ok (mem _ (by simp)), He.meth_ok (mem _ (by simp)), bd, D, fun hm => ?_⟩
        subst hm
        exact He.mkr_ok (mem (.mkr C) (by simp))
end
end Z

set_option Elab.async false
set_option linter.all false
set_option maxRecDepth 100000
set_option maxHeartbeats 4000000
namespace Z
open PySem PySem.Spec PyProof.Rows L2

/-! # the law's call -/
def scV : Value → V
  | .none => .non | .bool b => .bl b | .int i _ => .int i | .str x _ => .str x
  | _ => .non
theorem scV_rel {q : Cst} {u : Value} (h : He.relB q.v u = true) : scV u = q.v ∧ RelV q.v u := by
  refine ⟨?_, He.relB_ok h⟩
  have r := He.relB_ok h
  cases q with
  | non => cases (show u = .none from r); rfl
  | bl b => cases (show u = .bool b from r); rfl
  | int i => obtain ⟨t, e⟩ := (show ∃ t, u = .int i t from r); cases e; rfl
  | str x => obtain ⟨t, e⟩ := (show ∃ t, u = .str x t from r); cases e; rfl
theorem scVs_rel : ∀ {cs : List Cst} {us : List Value}, He.relAll (cs.map Cst.v) us = true → us.map scV = cs.map Cst.v ∧ Vals (cs.map Cst.v) us
  | [], [], _ => ⟨rfl, .nil⟩
  | [], _ :: _, h => by cases h
  | _ :: _, [], h => by cases h
  | c :: cs, u :: us, h => by
    obtain ⟨h1, h2⟩ := He.ba (show (He.relB c.v u && He.relAll (cs.map Cst.v) us) = true from h)
    obtain ⟨e1, r1⟩ := scV_rel h1
    obtain ⟨e2, r2⟩ := scVs_rel h2
    exact ⟨by rw [List.map_cons, List.map_cons, e1, e2], .cons r1 r2⟩
/-- the top's tuples, each with its object -/
structure Held (h : Heap) (T : Addr → Option (Obj × List V)) : Prop where
  at_ : ∀ a o vs, T a = some (o, vs) → h.get? a = some o ∧ o.cls = .type "tuple" ∧ (∃ its n, o.data = .seq its n ∧ its.size ≤ sizeLine ∧ Vals vs its.toList)
theorem cst_rep {K : PySem.W.Frag} {F : Hp} {ι : List Addr} (c : Cst) : Rep K F ι c.v c.d := by
  cases c with
  | non => exact .non
  | bl b => exact .bl b
  | int i => exact .int i
  | str x => exact .str x
theorem csts_rep {K : PySem.W.Frag} {F : Hp} {ι : List Addr} : ∀ cs : List Cst, Reps K F ι (cs.map Cst.v) (cs.map Cst.d)
  | [] => .nil
  | c :: cs => .cons (cst_rep c) (csts_rep cs)
/-- the table of the top's tuples -/
def tabC (K : PySem.W.Frag) (h : Heap) (cs : List (Str × GC)) (a : Addr) : Option (Obj × List V) := match cs with
  | [] => none
  | (x, .many ks) :: r => if a = He.ga K x then (h.get? a).map fun o => (o, ks.map Cst.v) else tabC K h r a
  | (_, .one _) :: r => tabC K h r a
theorem conB_many {K : PySem.W.Frag} {h : Heap} {x : Str} {ks : List Cst} (e : conB K h.get? (x, .many ks) = true) : PySem.W.nsIn K mainGlobals x = some (some (.ref (He.ga K x))) ∧ ∃ o its n, h.get? (He.ga K x) = some o ∧ o.cls = .type "tuple" ∧ o.data = .seq its n ∧ its.size ≤ sizeLine ∧ Vals (ks.map Cst.v) its.toList := by
  unfold conB at e
  split at e
  · rename_i u hu
    have hu : PySem.W.nsIn K mainGlobals x = some (some u) := hu
    simp only at e
    split at e
    · rename_i a _
      have hga : He.ga K x = a := by unfold He.ga; rw [hu]
      split at e
      · rename_i c od its n sl hg
        simp only [Bool.and_eq_true, decide_eq_true_eq] at e
        obtain ⟨rfl, h1, h2⟩ := e
        refine ⟨by rw [hga]; exact hu, _, its, n, by rw [hga]; exact hg, rfl, rfl, h1, (scVs_rel h2).2⟩
      · cases e
    · cases e
  · cases e
theorem conB_one {K : PySem.W.Frag} {g : Addr → Option Obj} {x : Str} {q : Cst} (e : conB K g (x, .one q) = true) : ∃ u, PySem.W.nsIn K mainGlobals x = some (some u) ∧ RelV q.v u := by
  unfold conB at e
  split at e
  · rename_i u hu
    exact ⟨u, hu, (scV_rel e).2⟩
  · cases e
theorem tab_held {K : PySem.W.Frag} {h : Heap} : ∀ {cs : List (Str × GC)}, (∀ q ∈ cs, conB K h.get? q = true) → Held h (tabC K h cs)
  | [], _ => ⟨fun a o vs e => by cases e⟩
  | (x, .one c) :: r, H => by
    have := tab_held (cs := r) fun q hq => H q (List.mem_cons_of_mem _ hq)
    exact ⟨fun a o vs e => this.at_ a o vs e⟩
  | (x, .many ks) :: r, H => by
    have ih := tab_held (cs := r) fun q hq => H q (List.mem_cons_of_mem _ hq)
    refine ⟨fun a o vs e => ?_⟩
    unfold tabC at e
    split at e
    · rename_i ha
      obtain ⟨_, o', its, n, h1, h2, h3, h4, h5⟩ := conB_many (H _ List.mem_cons_self)
      subst ha
      rw [h1] at e
      cases e
      exact ⟨h1, h2, ⟨its, n, h3, h4, h5⟩⟩
    · exact ih.at_ a o vs e
theorem tab_has {K : PySem.W.Frag} {h : Heap} {x : Str} {ks : List Cst} : ∀ {cs : List (Str × GC)}, (∀ q ∈ cs, conB K h.get? q = true) → (x, .many ks) ∈ cs → ∃ o, tabC K h cs (He.ga K x) = some (o, ks.map Cst.v)
  | (y, .one c) :: r, H, hm => by
    rcases List.mem_cons.mp hm with e | hm
    · cases e
    · exact tab_has (cs := r) (fun q hq => H q (List.mem_cons_of_mem _ hq)) hm
  | (y, .many ls) :: r, H, hm => by
    obtain ⟨_, o, its, n, h1, _, h3, _, h5⟩ := conB_many (H (y, .many ls) List.mem_cons_self)
    unfold tabC
    by_cases ha : He.ga K x = He.ga K y
    · rw [if_pos ha, ha, h1]
      refine ⟨o, ?_⟩
      show some (o, ls.map Cst.v) = _
      obtain ⟨_, o2, its2, n2, k1, _, k3, _, k5⟩ := conB_many (H (x, .many ks) hm)
      rw [ha, h1] at k1
      cases k1
      rw [h3] at k3
      cases k3
      rw [Vals.inj h5 k5]
    · rw [if_neg ha]
      rcases List.mem_cons.mp hm with e | hm
      · cases e; exact absurd rfl ha
      · exact tab_has (cs := r) (fun q hq => H q (List.mem_cons_of_mem _ hq)) hm
theorem ints_reps {K : PySem.W.Frag} {F : Hp} {ι : List Addr} : ∀ ns : List Int, Reps K F ι (ns.map V.int) (ns.map D.int)
  | [] => .nil
  | n :: ns => .cons (.int n) (ints_reps ns)
section
open Classical
/-- the heap at the call: the script and the top's tuples, both held as they are -/
def hp0 (T : Addr → Option (Obj × List V)) (a : Addr) (os : Obj) (ns : List Int) : Hp := fun b => if b = a then some (.frz os (.lst (ns.map .int))) else (T b).map fun q => .frz q.1 (.tup q.2)
def fp0 (T : Addr → Option (Obj × List V)) : Hp := fun b => (T b).map fun q => .frz q.1 (.tup q.2)
theorem law_run {c : Conf} {P : Program} {w : World} {K : PySem.W.Frag} {mg mb : Str → Option Value} {N : Nat} {fa a : Addr} {s₁ : Shared} {vs : List Value} {ns : List Int} {S' : Store}
    (ok : c.ok = true) (says : He.SaysD c.fa c.fn K) (noseq : ∀ a o, K.lookup a = some o → seqO o = false) (con : ∀ q ∈ c.cs, conB K s₁.heap.get? q = true)
    (KX : K.In s₁.heap) (hns : s₁.heap.Ns mainGlobals mg) (hb : s₁.heap.Ns builtinsNs mb) (hbb : ∀ x : Str, x ≠ "__name__" → mb x = bootBuiltins x) (hlim : s₁.heap.NoLimit) (hg : s₁.gens = #[])
    (ha : s₁.heap.get? a = some { cls := .type "list", data := .seq vs.toArray }) (hi : IntsAre vs ns) (hl : ns.length ≤ sizeLine) (hr : Room (2 * N) callerA) (hfa : mg "law" = some (.ref fa))
    (ev : runF c.prog N ("law", none) [.ref 0] [.lck (.lst (ns.map D.int))] = some (.bl true, S')) :
    codeAny (model P w) callerA (.call (.ref fa) ⟨[.ref a], []⟩) (fun r s' => r = .ok (.ret (.bool true)) ∧ OldK s₁.heap s'.heap ∧ s'.os = s₁.os ∧ AllBare s'.gens) s₁ := by
  have rv := vals_ints hi
  have lenV := hi.length
  have held := tab_held con
  generalize hT : tabC K s₁.heap c.cs = T at held
  have Ta : T a = none := by
    cases e : T a with
    | none => rfl
    | some q =>
      obtain ⟨h1, h2, _⟩ := held.at_ a q.1 q.2 e
      rw [ha] at h1
      rw [← Option.some.inj h1] at h2
      simp at h2
  generalize hos : ({ cls := .type "list", data := .seq vs.toArray } : Obj) = os at ha
  have H0a : hp0 T a os ns a = some (.frz os (.lst (ns.map .int))) := if_pos rfl
  have H0b : ∀ {b o us}, T b = some (o, us) → hp0 T a os ns b = some (.frz o (.tup us)) := fun {b o us} e => by
    have hb : b ≠ a := fun z => by rw [z, Ta] at e; cases e
    unfold hp0
    rw [if_neg hb, e]; rfl
  have H0n : ∀ {b u}, hp0 T a os ns b = some u → (b = a ∧ u = .frz os (.lst (ns.map .int))) ∨ ∃ o us, T b = some (o, us) ∧ u = .frz o (.tup us) := fun {b u} e => by
    unfold hp0 at e
    split at e
    · rename_i hb; cases e; exact .inl ⟨hb, rfl⟩
    · obtain ⟨q, e1, e2⟩ := Option.map_eq_some_iff.mp e
      exact .inr ⟨q.1, q.2, e1, e2.symm⟩
  -- what is tracked is a list, a tuple
  have seq_of : ∀ {b u o}, hp0 T a os ns b = some u → s₁.heap.get? b = some o → seqO o = true := fun {b u o} e g => by
    rcases H0n e with ⟨rfl, _⟩ | ⟨o', us, h1, _⟩
    · rw [ha] at g; cases g; subst hos; rfl
    · obtain ⟨k1, _, ⟨its, n, k2, _⟩⟩ := held.at_ b o' us h1
      rw [k1] at g; cases g
      unfold seqO; rw [k2]
  have hok : HOk P w (hp0 T a os ns) s₁.heap := fun b u e => by
    rcases H0n e with ⟨rfl, rfl⟩ | ⟨o', us, h1, rfl⟩
    · exact ⟨ha, by rw [List.length_map]; exact hl, vs, _, rv, by subst hos; exact ha⟩
    · obtain ⟨k1, k0, ⟨its, n, k2, k3, k4⟩⟩ := held.at_ b o' us h1
      exact ⟨k1, by rw [k4.length]; simpa using k3, its.toList, k4, ⟨o', k1, k0, n, by simpa using k2⟩⟩
  have base_of : ∀ {b : Addr} {o : Obj}, s₁.heap.get? b = some o → seqO o = false → (hidT s₁.heap (hp0 T a os ns)).get? b = some o := fun {b o} e n => hidT_get e (by
    cases q : hp0 T a os ns b with
    | none => rfl
    | some u => rw [seq_of q e] at n; cases n)
  have hKb : K.In (hidT s₁.heap (hp0 T a os ns)) := fun b o e => base_of (KX b o e) (noseq b o e)
  have nsK : ∀ {b : Addr} {m : Str → Option Value}, s₁.heap.Ns b m → (hidT s₁.heap (hp0 T a os ns)).Ns b m := fun {b m} ⟨o, es, ep, e, d, r⟩ => ⟨o, es, ep, base_of e (by unfold seqO; rw [d]), d, r⟩
  have hM : Mod K mg (hidT s₁.heap (hp0 T a os ns)) := ⟨hKb, nsK hns, ⟨mb, nsK hb, hbb⟩, let ⟨mc, h1, h2⟩ := hlim; ⟨mc, nsK h1, h2⟩⟩
  have e0 : Env0 P w K mg (hidT s₁.heap (hp0 T a os ns)) callerA [] s₁ (hp0 T a os ns) := ⟨rfl, hM, fun b o e => of_hidT e, Nat.le_of_eq (hidT_size _ _), trivial, fun b hb => absurd (show b ∈ ([] : List Addr) from hb) (by simp), hok, .of_eq hg⟩
  have lev := level (P := P) (w := w) ok says hKb (nsK hns) N
  obtain ⟨f, fdt, ps, m1, kp, bd, Df⟩ := lev.fn "law" _ _ _ ev
  have m1 : mg "law" = some (.ref f) := m1
  rw [hfa] at m1
  cases m1
  have hlen := Df.len _ _ _ ev
  have fsub : ∀ b o, fp0 T b = some o → ∃ q us, T b = some (q, us) ∧ o = .frz q (.tup us) := fun b o e => by
    obtain ⟨q, e1, e2⟩ := Option.map_eq_some_iff.mp e
    exact ⟨q.1, q.2, e1, e2.symm⟩
  have wd : Wd (c.pg P w K mg (hidT s₁.heap (hp0 T a os ns))) (fun _ => none) [.lck (.lst (ns.map D.int))] (fp0 T) [a] (hp0 T a os ns) := {
    sub := fun b o e => by
      obtain ⟨q, us, h1, rfl⟩ := fsub b o e
      exact .inl (H0b h1)
    con := fun x d e => by
      obtain ⟨gc, e1, e2⟩ := Option.map_eq_some_iff.mp e
      subst e2
      have hm := mem_of_lookup' e1
      cases gc with
      | one q =>
        obtain ⟨u, h1, h2⟩ := conB_one (con _ hm)
        exact ⟨u, q.v, PySem.W.mg_of hKb (nsK hns) h1, h2, cst_rep q⟩
      | many ks =>
        obtain ⟨h1, _⟩ := conB_many (con _ hm)
        obtain ⟨o, h2⟩ := tab_has con hm
        rw [hT] at h2
        exact ⟨.ref (He.ga K x), .ref (He.ga K x), PySem.W.mg_of hKb (nsK hns) h1, rfl, .ctup (.inr ⟨o, by unfold fp0; rw [h2]; rfl⟩) (csts_rep ks)⟩
    len := rfl
    nd := by simp
    cell := fun n cl b h1 h2 => by
      match n, h1, h2 with
      | 0, h1, h2 =>
        cases h1; cases h2
        refine ⟨by unfold fp0; rw [Ta]; rfl, ?_⟩
        exact ⟨os, ns.map .int, H0a, ints_reps ns⟩
      | n + 1, h1, h2 => simp at h1
    prot := fun b o e => by cases e }
  have bind := bd s₁ [.ref a] KX (by rw [List.append_nil]; exact hlen)
  rw [List.append_nil] at bind
  refine codeAny_mono (Df.run callerA [] s₁ (hp0 T a os ns) ⟨[.ref a], []⟩ [.ref a] [.ref a] _ _ _ _ _ (fp0 T) [a] hr rfl e0 bind (.cons rfl .nil) (.cons (.ref (n := 0) rfl) .nil) wd ev) fun r s' h => ?_
  obtain ⟨u, rfl, v, H', hos', bare, un, hok', ru, F', ι', W, _, _, rr⟩ := h
  cases rr
  obtain rfl : u = Value.bool true := ru
  refine ⟨rfl, OldK.of_keep fun b o e => ?_, hos', bare⟩
  cases q : hp0 T a os ns b with
  | none => exact un.keep b o e q (by intro z; exact absurd (show b ∈ ([] : List Addr) from z) (by simp)) (by simp)
  | some u =>
    have frz : ∃ ob x, u = .frz ob x := by
      rcases H0n q with ⟨_, rfl⟩ | ⟨_, _, _, rfl⟩
      · exact ⟨_, _, rfl⟩
      · exact ⟨_, _, rfl⟩
    obtain ⟨ob, x, rfl⟩ := frz
    have z2 := un.frzs b ob _ q
    obtain ⟨e1, _⟩ := hok b _ q
    obtain ⟨e2, _⟩ := hok' b _ z2
    rw [e] at e1; cases e1
    exact e2
end
theorem law_z {l : PySem.W.OpenLaw} {n N h : Nat} {q : Program} {loose : List Str} {XP : (Str → Option Value) → Heap → Prop} {d : DefRec} (c : Conf) (ok : c.ok = true) (hn : l.most = some n) (hn2 : n ≤ sizeLine) (hdf : d.params.defaults = []) (hname : d.name = ("law" : Str)) (hr : Room (2 * N) callerA)
    (ev : ∀ ns : List Int, ns.length ≤ n → ∃ S', runF c.prog N ("law", none) [.ref 0] [.lck (.lst (ns.map D.int))] = some (.bl true, S')) :
    PySem.W.WalkO q loose XP (hookZ h c).says l.row.toRowW d [] (fun f vs => PySem.call f vs) := by
  refine Att.attach_call hn hdf fun w s₀ s₁ mg mb fa o pm cd doc a vs ns G Y ho hd hcd hmg hobj hints hlen hg => ?_
  obtain ⟨K, KX, noseq, says, con⟩ := Y
  obtain ⟨S', ev⟩ := ev ns hlen
  rw [hname] at hmg
  exact law_run ok says noseq con KX G.T.g G.T.b G.T.builtins G.T.nolimit hg hobj hints (Nat.le_trans hlen hn2) hr hmg ev
end Z

set_option Elab.async false
set_option linter.all false
set_option maxRecDepth 100000
set_option maxHeartbeats 4000000
namespace Z
open PySem PySem.Spec PyProof.Rows L2

/-! # reckoning with the evaluator -/
theorem eqD_int (a b : Int) : eqD (.int a) (.int b) = decide (a = b) := by simp only [eqD, D.py, PyData.eqv]; exact Bool.beq_eq_decide_eq a b
theorem eqD_str (a b : Str) : eqD (.str a) (.str b) = decide (a = b) := by simp only [eqD, D.py, PyData.eqv]; exact Bool.beq_eq_decide_eq a b
theorem eqD_bl (a b : Bool) : eqD (.bl a) (.bl b) = (a == b) := by simp only [eqD, D.py, PyData.eqv]
theorem eqD_non : eqD .non .non = true := by simp only [eqD, D.py, PyData.eqv]
theorem eqD_tup (xs ys : List D) : eqD (.tup xs) (.tup ys) = PyData.eqvAll (pys xs) (pys ys) := by simp only [eqD, D.py, PyData.eqv]
theorem eqD_lst (xs ys : List D) : eqD (.lst xs) (.lst ys) = PyData.eqvAll (pys xs) (pys ys) := by simp only [eqD, D.py, PyData.eqv]
theorem eqA_cons (x y : D) (xs ys : List D) : PyData.eqvAll (pys (x :: xs)) (pys (y :: ys)) = (eqD x y && PyData.eqvAll (pys xs) (pys ys)) := by simp only [pys, PyData.eqvAll, eqD]
theorem eqA_nil : PyData.eqvAll (pys []) (pys []) = true := by simp only [pys, PyData.eqvAll]
theorem eqA_l (x : D) (xs : List D) : PyData.eqvAll (pys (x :: xs)) (pys []) = false := by simp only [pys, PyData.eqvAll]
theorem eqA_r (x : D) (xs : List D) : PyData.eqvAll (pys []) (pys (x :: xs)) = false := by simp only [pys, PyData.eqvAll]
theorem ltD_int (a b : Int) : ltD (.int a) (.int b) = decide (a < b) := by simp only [ltD, D.py]; exact PySem.W.dataLt_int a b
theorem ltD_str (a b : Str) : ltD (.str a) (.str b) = decide (a.cps.toList < b.cps.toList) := by simp only [ltD, D.py]; exact PySem.W.dataLt_str a b
theorem ltD_cons (x y : D) (xs ys : List D) (h : likeD x y = true) : ltD (.tup (x :: xs)) (.tup (y :: ys)) = if eqD x y = true then ltD (.tup xs) (.tup ys) else ltD x y := by
  unfold ltD likeD eqD at *
  simp only [D.py, pys]
  rw [PySem.W.dataLt_tuple]
  by_cases e : PyData.eqv x.py y.py = true
  · rw [if_pos e, PySem.W.dataLt_all_yes h e, PySem.W.dataLt_tuple]
  · rw [if_neg e, PySem.W.dataLt_all_no h (by simpa using e)]
theorem ltD_nil : ltD (.tup []) (.tup []) = false := by
  unfold ltD
  simp only [D.py, pys]
  rw [PySem.W.dataLt_tuple]
  simp [PySem.W.keyToksAll, PyProof.Rows.lexLt]
  rfl
theorem like_int (a b : Int) : likeD (.int a) (.int b) = true := by simp only [likeD, D.py, PySem.W.alike]
theorem like_str (a b : Str) : likeD (.str a) (.str b) = true := by simp only [likeD, D.py, PySem.W.alike]
theorem like_tup (xs ys : List D) : likeD (.tup xs) (.tup ys) = PySem.W.alikeAll (pys xs) (pys ys) := by simp only [likeD, D.py, PySem.W.alike]
theorem likeA_cons (x y : D) (xs ys : List D) : PySem.W.alikeAll (pys (x :: xs)) (pys (y :: ys)) = (likeD x y && PySem.W.alikeAll (pys xs) (pys ys)) := by simp only [likeD, pys, PySem.W.alikeAll]
theorem likeA_nil (ys : List D) : PySem.W.alikeAll (pys []) (pys ys) = true := by simp only [pys, PySem.W.alikeAll]
theorem fit_int (a : Int) : (D.int a).fit = true := by simp [D.fit, D.plain, D.dep, D.py, PyData.depth]
theorem fit_bl (a : Bool) : (D.bl a).fit = true := by simp [D.fit, D.plain, D.dep, D.py, PyData.depth]
theorem fit_non : D.non.fit = true := by simp [D.fit, D.plain, D.dep, D.py, PyData.depth]
theorem fit_str (a : Str) : (D.str a).fit = PyData.strOk a := by simp [D.fit, D.plain, D.dep, D.py, PyData.depth]
theorem stlt (a b c d : Int) : ltD (.tup [.int a, .int b]) (.tup [.int c, .int d]) = decide (a < c ∨ (a = c ∧ b < d)) := by
  rw [ltD_cons _ _ _ _ (like_int a c), ltD_cons _ _ _ _ (like_int b d), eqD_int, eqD_int, ltD_int, ltD_int, ltD_nil]
  by_cases h : a = c <;> by_cases h2 : b = d <;> simp [h, h2]
end Z

set_option Elab.async false
set_option linter.all false
set_option maxRecDepth 100000
set_option maxHeartbeats 4000000
namespace Z
open PySem PySem.Spec PyProof.Rows L2
/-! # the same, step by step: what comes behind a step stands where simp does not look -/
class Kn (α β : Type) where
  f : α → β
def bnd {α β : Type} (a : Option α) [k : Kn α (Option β)] : Option β := a.bind k.f
def mp {α β : Type} (a : Option α) [k : Kn α β] : Option β := a.map k.f
@[simp] theorem bnd_some {α β : Type} (x : α) (f : α → Option β) : @bnd α β (some x) ⟨f⟩ = f x := rfl
@[simp] theorem bnd_none {α β : Type} (f : α → Option β) : @bnd α β none ⟨f⟩ = none := rfl
@[simp] theorem mp_some {α β : Type} (x : α) (f : α → β) : @mp α β (some x) ⟨f⟩ = some (f x) := rfl
@[simp] theorem mp_none {α β : Type} (f : α → β) : @mp α β none ⟨f⟩ = none := rfl
@[simp] theorem x_evE_var {G : Fns} {i} {ρ : Env'} {S : Store} : evE G (.var i) ρ S = match ρ[i]? with
    | some (.fz d) => some (d, S)
    | _ => none := by
  rw [evE]; try rfl
@[simp] theorem x_evE_cst {G : Fns} {c} {ρ : Env'} {S : Store} : evE G (.cst c) ρ S = some (c.d, S) := by
  rw [evE]; try rfl
@[simp] theorem x_evE_glb {G : Fns} {w1 g} {ρ : Env'} {S : Store} : evE G (.glb w1 g) ρ S = some (g.d, S) := by
  rw [evE]; try rfl
@[simp] theorem x_evE_bin {G : Fns} {o a b} {ρ : Env'} {S : Store} : evE G (.bin o a b) ρ S = bnd (hOf a ρ S (evE G a ρ S)) (k := ⟨fun x => bnd (hOf b ρ x.2 (evE G b ρ x.2)) (k := ⟨fun y =>
      bnd (cont ρ y.2 x.1) (k := ⟨fun u => bnd (cont ρ y.2 y.1) (k := ⟨fun v => mp (binD o u v) (k := ⟨fun d => (d, y.2)⟩)⟩)⟩)⟩)⟩) := by
  rw [evE]; try rfl
@[simp] theorem x_evE_neg {G : Fns} {a} {ρ : Env'} {S : Store} : evE G (.neg a) ρ S = bnd (evE G a ρ S) (k := ⟨fun x => mp (intOf x.1) (k := ⟨fun i => (.int (-i), x.2)⟩)⟩) := by
  rw [evE]; try rfl
@[simp] theorem x_evE_not {G : Fns} {a} {ρ : Env'} {S : Store} : evE G (.not a) ρ S = bnd (evE G a ρ S) (k := ⟨fun x => mp (blOf x.1) (k := ⟨fun b => (.bl (!b), x.2)⟩)⟩) := by
  rw [evE]; try rfl
@[simp] theorem x_evE_and {G : Fns} {a b} {ρ : Env'} {S : Store} : evE G (.and a b) ρ S = bnd (evE G a ρ S) (k := ⟨fun x => bnd (blOf x.1) (k := ⟨fun c => if c then evE G b ρ x.2 else some (.bl false, x.2)⟩)⟩) := by
  rw [evE]; try rfl
@[simp] theorem x_evE_or {G : Fns} {a b} {ρ : Env'} {S : Store} : evE G (.or a b) ρ S = bnd (evE G a ρ S) (k := ⟨fun x => bnd (blOf x.1) (k := ⟨fun c => if c then some (.bl true, x.2) else evE G b ρ x.2⟩)⟩) := by
  rw [evE]; try rfl
@[simp] theorem x_evE_ife {G : Fns} {c a b} {ρ : Env'} {S : Store} : evE G (.ife c a b) ρ S = bnd (evE G c ρ S) (k := ⟨fun x => bnd (blOf x.1) (k := ⟨fun c => if c then evE G a ρ x.2 else evE G b ρ x.2⟩)⟩) := by
  rw [evE]; try rfl
@[simp] theorem x_evE_cmp {G : Fns} {o a b} {ρ : Env'} {S : Store} : evE G (.cmp o a b) ρ S = bnd (hOf a ρ S (evE G a ρ S)) (k := ⟨fun x => bnd (hOf b ρ x.2 (evE G b ρ x.2)) (k := ⟨fun y =>
      bnd (cont ρ y.2 x.1) (k := ⟨fun u => bnd (cont ρ y.2 y.1) (k := ⟨fun v => mp (cmpD o u v) (k := ⟨fun c => (.bl c, y.2)⟩)⟩)⟩)⟩)⟩) := by
  rw [evE]; try rfl
@[simp] theorem x_evE_chn {G : Fns} {o o' a b c} {ρ : Env'} {S : Store} : evE G (.chn o o' a b c) ρ S = bnd (hOf a ρ S (evE G a ρ S)) (k := ⟨fun x => bnd (hOf b ρ x.2 (evE G b ρ x.2)) (k := ⟨fun y =>
      bnd (cont ρ y.2 x.1) (k := ⟨fun u => bnd (cont ρ y.2 y.1) (k := ⟨fun v => bnd (cmpD o u v) (k := ⟨fun r =>
        if r then bnd (hOf c ρ y.2 (evE G c ρ y.2)) (k := ⟨fun z => bnd (cont ρ z.2 y.1) (k := ⟨fun v' => bnd (cont ρ z.2 z.1) (k := ⟨fun w => mp (cmpD o' v' w) (k := ⟨fun c => (.bl c, z.2)⟩)⟩)⟩)⟩) else some (.bl false, y.2)⟩)⟩)⟩)⟩)⟩) := by
  rw [evE]; try rfl
@[simp] theorem x_evE_iso {G : Fns} {n a b} {ρ : Env'} {S : Store} : evE G (.iso n a b) ρ S = bnd (evE G a ρ S) (k := ⟨fun x => bnd (evE G b ρ x.2) (k := ⟨fun y => mp (isoD x.1 n y.1) (k := ⟨fun d => (d, y.2)⟩)⟩)⟩) := by
  rw [evE]; try rfl
@[simp] theorem x_evE_tup {G : Fns} {as} {ρ : Env'} {S : Store} : evE G (.tup as) ρ S = bnd (evA G as ρ S) (k := ⟨fun x => if x.1.length ≤ sizeLine then some (.tup x.1, x.2) else none⟩) := by
  rw [evE]; try rfl
@[simp] theorem x_evE_list {G : Fns} {as} {ρ : Env'} {S : Store} : evE G (.list as) ρ S = bnd (evA G as ρ S) (k := ⟨fun x => if x.1.length ≤ sizeLine then some (.lst x.1, x.2) else none⟩) := by
  rw [evE]; try rfl
@[simp] theorem x_evE_dnew {G : Fns} {t} {ρ : Env'} {S : Store} : evE G (.dnew t) ρ S = some (if t then .dT [] else .dK [], S) := by
  rw [evE]; try rfl
@[simp] theorem x_evE_disp {G : Fns} {ks vs} {ρ : Env'} {S : Store} : evE G (.disp ks vs) ρ S = bnd (evA G ks ρ S) (k := ⟨fun x => bnd (evA G vs ρ x.2) (k := ⟨fun y => bnd (dsp x.1 y.1) (k := ⟨fun es =>
      if es.length ≤ 15 then some (.dK (es.foldl (fun acc e => dput acc e.1 e.2) []), y.2) else none⟩)⟩)⟩) := by
  rw [evE]; try rfl
@[simp] theorem x_evE_idx {G : Fns} {a b} {ρ : Env'} {S : Store} : evE G (.idx a b) ρ S = bnd (hOf a ρ S (evE G a ρ S)) (k := ⟨fun x => bnd (evE G b ρ x.2) (k := ⟨fun y =>
      bnd (cont ρ y.2 x.1) (k := ⟨fun u => mp (idxD u y.1) (k := ⟨fun d => (d, y.2)⟩)⟩)⟩)⟩) := by
  rw [evE]; try rfl
@[simp] theorem x_evE_sl {G : Fns} {a lo hi} {ρ : Env'} {S : Store} : evE G (.sl a lo hi) ρ S = bnd (hOf a ρ S (evE G a ρ S)) (k := ⟨fun x => bnd (evA G lo ρ x.2) (k := ⟨fun y => bnd (evA G hi ρ y.2) (k := ⟨fun z =>
      bnd (cont ρ z.2 x.1) (k := ⟨fun u => bnd (ixO y.1) (k := ⟨fun lo => bnd (ixO z.1) (k := ⟨fun hi => mp (slD u lo hi) (k := ⟨fun d => (d, z.2)⟩)⟩)⟩)⟩)⟩)⟩)⟩) := by
  rw [evE]; try rfl
@[simp] theorem x_evE_rev {G : Fns} {a} {ρ : Env'} {S : Store} : evE G (.rev a) ρ S = bnd (hOf a ρ S (evE G a ρ S)) (k := ⟨fun x => bnd (cont ρ x.2 x.1) (k := ⟨fun u => match u with
      | .lst xs => some (.lst xs.reverse, x.2)
      | _ => none⟩)⟩) := by
  rw [evE]; try rfl
@[simp] theorem x_evE_fld {G : Fns} {a f} {ρ : Env'} {S : Store} : evE G (.fld a f) ρ S = bnd (evE G a ρ S) (k := ⟨fun x => match x.1 with
      | .ref n => (match x.2[n]? with
        | some (.ins C fs) => if G.fld C f then mp (fs.lookup f) (k := ⟨fun d => (d, x.2)⟩) else none
        | _ => none)
      | _ => none⟩) := by
  rw [evE]; try rfl
@[simp] theorem x_evE_call {G : Fns} {f as} {ρ : Env'} {S : Store} : evE G (.call f as) ρ S = bnd (evA G as ρ S) (k := ⟨fun x => G.fn (f, none) x.1 x.2⟩) := by
  rw [evE]; try rfl
@[simp] theorem x_evE_mk {G : Fns} {as} {ρ : Env'} {S : Store} : evE G (.mk C as) ρ S = bnd (evA G as ρ S) (k := ⟨fun x => bnd (G.fn (C, some "__init__") (.ref x.2.length :: x.1) (x.2 ++ [.ins C []])) (k := ⟨fun y => match y.1 with
      | .non => some (.ref x.2.length, y.2)
      | _ => none⟩)⟩) := by
  rw [evE]; try rfl
@[simp] theorem x_evE_meth {G : Fns} {o m as} {ρ : Env'} {S : Store} : evE G (.meth o m as) ρ S = bnd (evE G o ρ S) (k := ⟨fun x => match x.1 with
      | .ref n => (match x.2[n]? with
        | some (.ins C fs) => if (fs.lookup m).isNone then bnd (evA G as ρ x.2) (k := ⟨fun y => G.fn (C, some m) (.ref n :: y.1) y.2⟩) else none
        | _ => none)
      | _ => none⟩) := by
  rw [evE]; try rfl
@[simp] theorem x_evE_blt {G : Fns} {b as} {ρ : Env'} {S : Store} : evE G (.blt b as) ρ S = bnd (evH G as ρ S) (k := ⟨fun x => bnd (x.1.mapM (cont ρ x.2)) (k := ⟨fun ds => mp (bltD b ds) (k := ⟨fun d => (d, x.2)⟩)⟩)⟩) := by
  rw [evE]; try rfl
@[simp] theorem x_evE_get {G : Fns} {o k} {ρ : Env'} {S : Store} : evE G (.get o k) ρ S = bnd (hOf o ρ S (evE G o ρ S)) (k := ⟨fun x => if isDct (cont ρ x.2 x.1) then bnd (evE G k ρ x.2) (k := ⟨fun y =>
      bnd (cont ρ y.2 x.1) (k := ⟨fun u => mp (dget u y.1) (k := ⟨fun r => (r.getD .non, y.2)⟩)⟩)⟩) else none⟩) := by
  rw [evE]; try rfl
@[simp] theorem x_evE_getd {G : Fns} {o k d} {ρ : Env'} {S : Store} : evE G (.getd o k d) ρ S = bnd (hOf o ρ S (evE G o ρ S)) (k := ⟨fun x => if isDct (cont ρ x.2 x.1) then bnd (evE G k ρ x.2) (k := ⟨fun y => bnd (evE G d ρ y.2) (k := ⟨fun z =>
      bnd (cont ρ z.2 x.1) (k := ⟨fun u => mp (dget u y.1) (k := ⟨fun r => (r.getD z.1, z.2)⟩)⟩)⟩)⟩) else none⟩) := by
  rw [evE]; try rfl
@[simp] theorem x_evE_mref {G : Fns} {e} {ρ : Env'} {S : Store} : evE G (.mref e) ρ S = bnd (evE G e ρ S) (k := ⟨fun x => newRef x.2 x.1⟩) := by
  rw [evE]; try rfl
@[simp] theorem x_evE_lrng {G : Fns} {a b} {ρ : Env'} {S : Store} : evE G (.lrng a b) ρ S = bnd (evE G a ρ S) (k := ⟨fun x => bnd (evE G b ρ x.2) (k := ⟨fun y => bnd (intOf x.1) (k := ⟨fun i => bnd (intOf y.1) (k := ⟨fun j => if smallI i && (smallI j && decide ((j - i).toNat ≤ 1000000)) then some (.lst (rngD i (j - i).toNat), y.2) else none⟩)⟩)⟩)⟩) := by
  rw [evE]; try rfl
@[simp] theorem x_evE_dcst {G : Fns} {kvs} {ρ : Env'} {S : Store} : evE G (.dcst kvs) ρ S = bnd (dsp (kvs.map fun q => q.1.d) (kvs.map fun q => q.2.d)) (k := ⟨fun es => if es.length ≤ 15 ∧ es ≠ [] then some (.dK (es.foldl (fun acc e => dput acc e.1 e.2) []), S) else none⟩) := by
  rw [evE]; try rfl
@[simp] theorem x_evE_dmrg {G : Fns} {a b} {ρ : Env'} {S : Store} : evE G (.dmrg a b) ρ S = bnd (hOf a ρ S (evE G a ρ S)) (k := ⟨fun x => bnd (cont ρ x.2 x.1) (k := ⟨fun u => bnd (hOf b ρ x.2 (evE G b ρ x.2)) (k := ⟨fun y => bnd (cont ρ y.2 y.1) (k := ⟨fun v => mp (mrgD u v) (k := ⟨fun d => (d, y.2)⟩)⟩)⟩)⟩)⟩) := by
  rw [evE]; try rfl
@[simp] theorem x_evE_skey {G : Fns} {f a} {ρ : Env'} {S : Store} : evE G (.skey f a) ρ S = bnd (hOf a ρ S (evE G a ρ S)) (k := ⟨fun x => bnd (cont ρ x.2 x.1) (k := ⟨fun u => match u with
      | .lst (y :: ys) => bnd (keysG (fun d => G.fn (f, none) [d] x.2) x.2 (y :: ys)) (k := ⟨fun ks => mp (sortByD (y :: ys) ks) (k := ⟨fun d => (d, x.2)⟩)⟩)
      | _ => none⟩)⟩) := by
  rw [evE]; try rfl
@[simp] theorem x_evE_sitm {G : Fns} {a} {ρ : Env'} {S : Store} : evE G (.sitm a) ρ S = bnd (hOf a ρ S (evE G a ρ S)) (k := ⟨fun x => bnd (cont ρ x.2 x.1) (k := ⟨fun u => mp (sitD u) (k := ⟨fun d => (d, x.2)⟩)⟩)⟩) := by
  rw [evE]; try rfl
@[simp] theorem x_evE_sdt {G : Fns} {a} {ρ : Env'} {S : Store} : evE G (.sdt a) ρ S = bnd (hOf a ρ S (evE G a ρ S)) (k := ⟨fun x => bnd (cont ρ x.2 x.1) (k := ⟨fun u => mp (sdtD u) (k := ⟨fun d => (d, x.2)⟩)⟩)⟩) := by
  rw [evE]; try rfl
@[simp] theorem x_evE_mdt {G : Fns} {a} {ρ : Env'} {S : Store} : evE G (.mdt a) ρ S = bnd (hOf a ρ S (evE G a ρ S)) (k := ⟨fun x => bnd (cont ρ x.2 x.1) (k := ⟨fun u => mp (mdtD u) (k := ⟨fun d => (d, x.2)⟩)⟩)⟩) := by
  rw [evE]; try rfl
@[simp] theorem x_evE_iss {G : Fns} {a} {ρ : Env'} {S : Store} : evE G (.iss a) ρ S = bnd (hOf a ρ S (evE G a ρ S)) (k := ⟨fun x => bnd (cont ρ x.2 x.1) (k := ⟨fun u => if u.plain then some (.bl (isStrD u), x.2) else none⟩)⟩) := by
  rw [evE]; try rfl
@[simp] theorem x_evE_lsl {G : Fns} {a lo hi} {ρ : Env'} {S : Store} : evE G (.lsl a lo hi) ρ S = bnd (hOf a ρ S (evE G a ρ S)) (k := ⟨fun x => bnd (evA G lo ρ x.2) (k := ⟨fun y => bnd (evA G hi ρ y.2) (k := ⟨fun z =>
      bnd (cont ρ z.2 x.1) (k := ⟨fun u => bnd (ixO y.1) (k := ⟨fun lo => bnd (ixO z.1) (k := ⟨fun hi => match u with
      | .lst xs => some (.lst (cutL xs lo hi), z.2)
      | _ => none⟩)⟩)⟩)⟩)⟩)⟩) := by
  rw [evE]; try rfl
@[simp] theorem x_evE_ist {G : Fns} {j a} {ρ : Env'} {S : Store} : evE G (.ist j a) ρ S = bnd (hOf a ρ S (evE G a ρ S)) (k := ⟨fun x => bnd (cont ρ x.2 x.1) (k := ⟨fun u => if u.plain then some (.bl (isTyD j u), x.2) else none⟩)⟩) := by
  rw [evE]; try rfl
@[simp] theorem x_evE_join {G : Fns} {x a} {ρ : Env'} {S : Store} : evE G (.join x a) ρ S = bnd (hOf a ρ S (evE G a ρ S)) (k := ⟨fun y => bnd (cont ρ y.2 y.1) (k := ⟨fun u => mp (joinD x u) (k := ⟨fun d => (d, y.2)⟩)⟩)⟩) := by
  rw [evE]; try rfl
@[simp] theorem x_evA_nil {G : Fns} {ρ : Env'} {S : Store} : evA G (.nil) ρ S = some ([], S) := by
  rw [evA]; try rfl
@[simp] theorem x_evA_cons {G : Fns} {e as} {ρ : Env'} {S : Store} : evA G (.cons e as) ρ S = bnd (evE G e ρ S) (k := ⟨fun x => mp (evA G as ρ x.2) (k := ⟨fun y => (x.1 :: y.1, y.2)⟩)⟩) := by
  rw [evA]; try rfl
@[simp] theorem x_evH_nil {G : Fns} {ρ : Env'} {S : Store} : evH G (.nil) ρ S = some ([], S) := by
  rw [evH]; try rfl
@[simp] theorem x_evH_cons {G : Fns} {e as} {ρ : Env'} {S : Store} : evH G (.cons e as) ρ S = bnd (hOf e ρ S (evE G e ρ S)) (k := ⟨fun x => mp (evH G as ρ x.2) (k := ⟨fun y => (x.1 :: y.1, y.2)⟩)⟩) := by
  rw [evH]; try rfl
@[simp] theorem x_evI_seq {G : Fns} {e} {ρ : Env'} {S : Store} : evI G (.seq e) ρ S = bnd (hOf e ρ S (evE G e ρ S)) (k := ⟨fun x => bnd (cont ρ x.2 x.1) (k := ⟨fun u => mp (itemsIn u) (k := ⟨fun xs => (x.1, xs, x.2)⟩)⟩)⟩) := by
  rw [evI]; try rfl
@[simp] theorem x_evI_rng {G : Fns} {a} {ρ : Env'} {S : Store} : evI G (.rng a) ρ S = bnd (evE G a ρ S) (k := ⟨fun x => bnd (intOf x.1) (k := ⟨fun j => if smallI j then some (.val .non, rngD 0 j.toNat, x.2) else none⟩)⟩) := by
  rw [evI]; try rfl
@[simp] theorem x_evI_rng2 {G : Fns} {a b} {ρ : Env'} {S : Store} : evI G (.rng2 a b) ρ S = bnd (evE G a ρ S) (k := ⟨fun x => bnd (evE G b ρ x.2) (k := ⟨fun y => bnd (intOf x.1) (k := ⟨fun i => bnd (intOf y.1) (k := ⟨fun j => if smallI i && smallI j then some (.val .non, rngD i (j - i).toNat, y.2) else none⟩)⟩)⟩)⟩) := by
  rw [evI]; try rfl
@[simp] theorem x_evI_items {G : Fns} {e} {ρ : Env'} {S : Store} : evI G (.items e) ρ S = bnd (hOf e ρ S (evE G e ρ S)) (k := ⟨fun x => bnd (cont ρ x.2 x.1) (k := ⟨fun u => mp (itemsOf u) (k := ⟨fun xs => (x.1, xs, x.2)⟩)⟩)⟩) := by
  rw [evI]; try rfl
@[simp] theorem x_evS_asg {G : Fns} {t e} {ρ : Env'} {S : Store} : evS G (.asg t e) ρ S = bnd (evE G e ρ S) (k := ⟨fun x => mp (bindT t x.1 ρ) (k := ⟨fun ρ' => .nxt ρ' x.2⟩)⟩) := by
  rw [evS]; try rfl
@[simp] theorem x_evS_own {G : Fns} {i e} {ρ : Env'} {S : Store} : evS G (.own i e) ρ S = if isFresh e then bnd (evE G e ρ S) (k := ⟨fun x => match x.1 with
      | .lst xs => some (.nxt (ρ.set i (.own (.lst xs))) x.2)
      | .dK xs => some (.nxt (ρ.set i (.own (.dK xs))) x.2)
      | .dT xs => some (.nxt (ρ.set i (.own (.dT xs))) x.2)
      | _ => none⟩) else none := by
  rw [evS]; try rfl
@[simp] theorem x_evS_par {G : Fns} {is es} {ρ : Env'} {S : Store} : evS G (.par is es) ρ S = bnd (evA G es ρ S) (k := ⟨fun x => if x.1.length = is.length then some (.nxt ((is.zip x.1).foldl (fun ρ p => ρ.set p.1 (.fz p.2)) ρ) x.2) else none⟩) := by
  rw [evS]; try rfl
@[simp] theorem x_evS_setf {G : Fns} {o f e} {ρ : Env'} {S : Store} : evS G (.setf o f e) ρ S = bnd (evE G e ρ S) (k := ⟨fun x => bnd (evE G o ρ x.2) (k := ⟨fun y => match y.1 with
      | .ref n => mp (setF G y.2 n f x.1) (k := ⟨fun S' => .nxt ρ S'⟩)
      | _ => none⟩)⟩) := by
  rw [evS]; try rfl
@[simp] theorem x_evS_seti {G : Fns} {o k e} {ρ : Env'} {S : Store} : evS G (.seti o k e) ρ S = bnd (evE G e ρ S) (k := ⟨fun x => bnd (hOf o ρ x.2 (evE G o ρ x.2)) (k := ⟨fun y => bnd (evE G k ρ y.2) (k := ⟨fun z =>
      bnd (cont ρ z.2 y.1) (k := ⟨fun u => bnd (setItem' u z.1 x.1) (k := ⟨fun d => mp (putC ρ z.2 y.1 d) (k := ⟨fun q => .nxt q.1 q.2⟩)⟩)⟩)⟩)⟩)⟩) := by
  rw [evS]; try rfl
@[simp] theorem x_evS_app {G : Fns} {o e} {ρ : Env'} {S : Store} : evS G (.app o e) ρ S = bnd (hOf o ρ S (evE G o ρ S)) (k := ⟨fun x => if isLst (cont ρ x.2 x.1) then bnd (evE G e ρ x.2) (k := ⟨fun y => bnd (cont ρ y.2 x.1) (k := ⟨fun u => match u with
      | .lst xs => if xs.length < sizeLine then mp (putC ρ y.2 x.1 (.lst (xs ++ [y.1]))) (k := ⟨fun q => .nxt q.1 q.2⟩) else none
      | _ => none⟩)⟩) else none⟩) := by
  rw [evS]; try rfl
@[simp] theorem x_evS_pop {G : Fns} {t o as} {ρ : Env'} {S : Store} : evS G (.pop t o as) ρ S = bnd (hOf o ρ S (evE G o ρ S)) (k := ⟨fun x => bnd (evA G as ρ x.2) (k := ⟨fun y => if isLst (cont ρ x.2 x.1) = isLst (cont ρ y.2 x.1) ∧ isDct (cont ρ x.2 x.1) = isDct (cont ρ y.2 x.1) then bnd (cont ρ y.2 x.1) (k := ⟨fun u => bnd (popD u y.1) (k := ⟨fun r =>
      bnd (putC ρ y.2 x.1 r.2) (k := ⟨fun q => match t with
      | none => some (.nxt q.1 q.2)
      | some t => mp (bindT t r.1 q.1) (k := ⟨fun ρ' => .nxt ρ' q.2⟩)⟩)⟩)⟩) else none⟩)⟩) := by
  rw [evS]; try rfl
@[simp] theorem x_evS_expr {G : Fns} {e} {ρ : Env'} {S : Store} : evS G (.expr e) ρ S = mp (evE G e ρ S) (k := ⟨fun x => .nxt ρ x.2⟩) := by
  rw [evS]; try rfl
@[simp] theorem x_evS_augf {G : Fns} {o f p e} {ρ : Env'} {S : Store} : evS G (.augf o f p e) ρ S = bnd (evE G o ρ S) (k := ⟨fun x => match x.1 with
      | .ref n => (match x.2[n]? with
        | some (.ins C fs) => if G.fld C f = true then (match fs.lookup f with
          | some (.int a) => bnd (evE G e ρ x.2) (k := ⟨fun y => (match y.1, p, y.2[n]? with
            | .int b, .Add, some (.ins C' _) => if C' = C then mp (setF G y.2 n f (.int (a + b))) (k := ⟨fun S' => .nxt ρ S'⟩) else none
            | _, _, _ => none)⟩)
          | _ => none) else none
        | _ => none)
      | _ => none⟩) := by
  rw [evS]; try rfl
@[simp] theorem x_evS_aug {G : Fns} {i o e} {ρ : Env'} {S : Store} : evS G (.aug i o e) ρ S = bnd (evE G e ρ S) (k := ⟨fun x => match ρ[i]? with
      | some (.fz u) => (match u, x.1 with
        | .int a, .int b => (match o with
          | .Add => some (.nxt (ρ.set i (.fz (.int (a + b)))) x.2)
          | .Sub => some (.nxt (ρ.set i (.fz (.int (a - b)))) x.2)
          | _ => none)
        | _, _ => none)
      | _ => none⟩) := by
  rw [evS]; try rfl
@[simp] theorem x_evS_ife {G : Fns} {c a b} {ρ : Env'} {S : Store} : evS G (.ife c a b) ρ S = bnd (evE G c ρ S) (k := ⟨fun x => bnd (blOf x.1) (k := ⟨fun k => if k then evSs G a ρ x.2 else evSs G b ρ x.2⟩)⟩) := by
  rw [evS]; try rfl
theorem x_evS_for_ {G : Fns} {t it b} {ρ : Env'} {S : Store} : evS G (.for_ t it b) ρ S = bnd (evI G it ρ S) (k := ⟨fun w => if noSlot w.1 then bnd (lockS ρ w.2.2 w.1) (k := ⟨fun l =>
      bnd (forGo (fun S' ρ' => cont ρ' S' w.1 = cont ρ l.1 w.1) (fun d ρ' S' => bnd (bindT t d ρ') (k := ⟨fun ρ2 => evSs G b ρ2 S'⟩)) w.2.1 ρ l.1) (k := ⟨fun o => o.after l.2⟩)⟩) else none⟩) := by
  rw [evS]; try rfl
theorem x_evS_while_ {G : Fns} {c b} {ρ : Env'} {S : Store} : evS G (.while_ c b) ρ S = whGo (fun ρ' S' => bnd (evE G c ρ' S') (k := ⟨fun x => mp (blOf x.1) (k := ⟨fun k => (k, x.2)⟩)⟩)) (fun ρ' S' => evSs G b ρ' S') whMost ρ S := by
  rw [evS]; try rfl
@[simp] theorem x_evS_ret {G : Fns} {e} {ρ : Env'} {S : Store} : evS G (.ret e) ρ S = mp (evE G e ρ S) (k := ⟨fun x => .ret x.1 x.2⟩) := by
  rw [evS]; try rfl
@[simp] theorem x_evS_retN {G : Fns} {ρ : Env'} {S : Store} : evS G (.retN) ρ S = some (.ret .non S) := by
  rw [evS]; try rfl
@[simp] theorem x_evS_brk {G : Fns} {ρ : Env'} {S : Store} : evS G (.brk) ρ S = some (.brk ρ S) := by
  rw [evS]; try rfl
@[simp] theorem x_evS_cnt {G : Fns} {ρ : Env'} {S : Store} : evS G (.cnt) ρ S = some (.cnt ρ S) := by
  rw [evS]; try rfl
@[simp] theorem x_evS_pass {G : Fns} {ρ : Env'} {S : Store} : evS G (.pass) ρ S = some (.nxt ρ S) := by
  rw [evS]; try rfl
@[simp] theorem x_evSs_nil {G : Fns} {ρ : Env'} {S : Store} : evSs G (.nil) ρ S = some (.nxt ρ S) := by
  rw [evSs]; try rfl
@[simp] theorem x_evSs_cons {G : Fns} {s r} {ρ : Env'} {S : Store} : evSs G (.cons s r) ρ S = bnd (evS G s ρ S) (k := ⟨fun o => match o with
    | .nxt ρ' S' => evSs G r ρ' S'
    | .ret d S' => some (.ret d S')
    | .brk ρ' S' => some (.brk ρ' S')
    | .cnt ρ' S' => some (.cnt ρ' S')⟩) := by
  rw [evSs]; try rfl
@[simp] theorem x_evSs_frz {G : Fns} {i r} {ρ : Env'} {S : Store} : evSs G (.frz i r) ρ S = match ρ[i]? with
    | some (.own d) => evSs G r (ρ.set i (.fz d)) S
    | _ => none := by
  rw [evSs]; try rfl
end Z

set_option Elab.async false
set_option linter.all false
set_option maxRecDepth 100000
set_option maxHeartbeats 4000000
namespace Z
open PySem PySem.Spec PyProof.Rows L2
theorem fit_st (a b : Int) : (D.tup [.int a, .int b]).fit = true := by
  simp [D.fit, D.plain, plains, D.dep, D.py, pys, PyData.depth, PyData.depthAll]
theorem like_st (a b c d : Int) : likeD (.tup [.int a, .int b]) (.tup [.int c, .int d]) = true := by
  simp [like_tup, likeA_cons, likeA_nil, like_int]
theorem okAll_st (a b c d : Int) : okAll [.tup [.int a, .int b], .tup [.int c, .int d]] = true := by
  simp [okAll, fits, D.fit, D.plain, plains, D.dep, D.py, pys, PyData.depth, PyData.depthAll, like_st, D.isNon]
theorem max_st (a b c d : Int) : bltD .max [.tup [.int a, .int b], .tup [.int c, .int d]] = some (if a < c ∨ (a = c ∧ b < d) then .tup [.int c, .int d] else .tup [.int a, .int b]) := by
  simp only [bltD, okAll_st, if_true, maxD, List.foldl_cons, List.foldl_nil, stlt, decide_eq_true_eq]
theorem ne_st (a b c d : Int) : cmpD .NotEq (.tup [.int a, .int b]) (.tup [.int c, .int d]) = some (!decide (a = c ∧ b = d)) := by
  simp [cmpD, okEq, fit_st, eqD_tup, eqA_cons, eqA_nil, eqD_int, Bool.decide_and]
theorem eq_st (a b c d : Int) : cmpD .Eq (.tup [.int a, .int b]) (.tup [.int c, .int d]) = some (decide (a = c ∧ b = d)) := by
  simp [cmpD, okEq, fit_st, eqD_tup, eqA_cons, eqA_nil, eqD_int, Bool.decide_and]
theorem ne_st_non (a b : Int) : cmpD .NotEq (.tup [.int a, .int b]) .non = some true := by
  simp [cmpD, okEq, fit_st, fit_non, eqD, D.py, PyData.eqv]
theorem ne_non_st (a b : Int) : cmpD .NotEq .non (.tup [.int a, .int b]) = some true := by
  simp [cmpD, okEq, fit_st, fit_non, eqD, D.py, PyData.eqv]
theorem ne_non_non : cmpD .NotEq .non .non = some false := by
  simp [cmpD, okEq, fit_non, eqD, D.py, PyData.eqv]
theorem gt_st (a b c d : Int) : cmpD .Gt (.tup [.int a, .int b]) (.tup [.int c, .int d]) = some (decide (c < a ∨ (c = a ∧ d < b))) := by
  simp [cmpD, okLt, fit_st, like_st, D.isNon, stlt]
theorem eq_ii (a b : Int) : cmpD .Eq (.int a) (.int b) = some (decide (a = b)) := by simp [cmpD, okEq, fit_int, eqD_int]
theorem ne_ii (a b : Int) : cmpD .NotEq (.int a) (.int b) = some (!decide (a = b)) := by simp [cmpD, okEq, fit_int, eqD_int]
theorem lt_ii (a b : Int) : cmpD .Lt (.int a) (.int b) = some (decide (a < b)) := by simp [cmpD, okLt, fit_int, like_int, D.isNon, ltD_int]
theorem gt_ii (a b : Int) : cmpD .Gt (.int a) (.int b) = some (decide (b < a)) := by simp [cmpD, okLt, fit_int, like_int, D.isNon, ltD_int]
theorem le_ii (a b : Int) : cmpD .LtE (.int a) (.int b) = some (decide (a ≤ b)) := by
  simp only [cmpD, okLt, fit_int, like_int, D.isNon, ltD_int, Bool.not_false, Bool.and_self, if_true, Bool.and_true]
  congr 1
  by_cases h : b < a
  · have : ¬ a ≤ b := by omega
    simp [h, this]
  · have : a ≤ b := by omega
    simp [h, this]
theorem ge_ii (a b : Int) : cmpD .GtE (.int a) (.int b) = some (decide (b ≤ a)) := by
  simp only [cmpD, okLt, fit_int, like_int, D.isNon, ltD_int, Bool.not_false, Bool.and_self, if_true, Bool.and_true]
  congr 1
  by_cases h : a < b
  · have : ¬ b ≤ a := by omega
    simp [h, this]
  · have : b ≤ a := by omega
    simp [h, this]
theorem eq_ss (a b : Str) (ha : PyData.strOk a = true) (hb : PyData.strOk b = true) : cmpD .Eq (.str a) (.str b) = some (decide (a = b)) := by simp [cmpD, okEq, fit_str, ha, hb, eqD_str]
theorem ne_ss (a b : Str) (ha : PyData.strOk a = true) (hb : PyData.strOk b = true) : cmpD .NotEq (.str a) (.str b) = some (!decide (a = b)) := by simp [cmpD, okEq, fit_str, ha, hb, eqD_str]
theorem max_ii (a b : Int) : bltD .max [.int a, .int b] = some (.int (if b > a then b else a)) := rfl
theorem len2 : (2 : Nat) ≤ sizeLine := by decide
theorem len3 : (3 : Nat) ≤ sizeLine := by decide
end Z

set_option Elab.async false
set_option linter.all false
set_option maxRecDepth 100000
set_option maxHeartbeats 4000000
namespace Z
open PySem PySem.Spec PyProof.Rows L2
/-- the draws' state: where it stands, its cells -/
structure Rnd (S : Store) (st c : Nat) (pos : Int) (cs : List Int) : Prop where
  at_ : S[st]? = some (.con (.lst [.int pos, .ref c]))
  row : S[c]? = some (.con (.lst (cs.map .int)))
  ne : st ≠ c
  pos0 : 0 ≤ pos
  len : cs ≠ []
  nn : ∀ x ∈ cs, 0 ≤ x
theorem atI_nat {α : Type} {xs : List α} {i : Nat} (h : i < xs.length) : atI xs (i : Int) = xs[i]? := by
  unfold atI ixN
  have h1 : (0 : Int) ≤ (i : Int) := by omega
  have h2 : (i : Int) < (xs.length : Int) := by omega
  rw [if_pos h1, if_pos h2]
  simp
theorem atI0 {α : Type} (x : α) (xs : List α) : atI (x :: xs) 0 = some x := by
  have := atI_nat (xs := x :: xs) (i := 0) (by simp)
  simpa using this
theorem atI1 {α : Type} (x y : α) (xs : List α) : atI (x :: y :: xs) 1 = some y := by
  have := atI_nat (xs := x :: y :: xs) (i := 1) (by simp)
  simpa using this
theorem ixN_nat {n j : Nat} (h : j < n) : ixN n (j : Int) = some j := by
  unfold ixN
  rw [if_pos (by omega), if_pos (by omega)]
  simp
theorem Rnd.set {S : Store} {st c : Nat} {pos : Int} {cs : List Int} (R : Rnd S st c pos cs) (j : Nat) (x : Int) (hx : 0 ≤ x) : Rnd (S.set c (.con (.lst ((cs.set j x).map .int)))) st c pos (cs.set j x) where
  at_ := by rw [List.getElem?_set_ne R.ne.symm]; exact R.at_
  row := by
    have hl : c < S.length := (List.getElem?_eq_some_iff.mp R.row).1
    rw [List.getElem?_set_self hl]
  ne := R.ne
  pos0 := R.pos0
  len := by simp [R.len]
  nn := fun y hy => by
    rcases List.mem_or_eq_of_mem_set hy with h | h
    · exact R.nn y h
    · rw [h]; exact hx
theorem Rnd.next {S : Store} {st c : Nat} {pos : Int} {cs : List Int} (R : Rnd S st c pos cs) : Rnd (S.set st (.con (.lst [.int (pos + 1), .ref c]))) st c (pos + 1) cs where
  at_ := by
    have hl : st < S.length := (List.getElem?_eq_some_iff.mp R.at_).1
    rw [List.getElem?_set_self hl]
  row := by rw [List.getElem?_set_ne R.ne]; exact R.row
  ne := R.ne
  pos0 := by have := R.pos0; omega
  len := R.len
  nn := R.nn
/-- what a draw may do -/
def Drawn (S : Store) (st c : Nat) (most : Int) (v : Int) (S' : Store) : Prop := (0 < most → 0 ≤ v ∧ v < most) ∧ (¬ 0 < most → v = 0) ∧ (∃ pos cs, Rnd S' st c pos cs) ∧ S'.length = S.length ∧ ∀ k, k ≠ st → k ≠ c → S'[k]? = S[k]?
def bTake : Sms :=
      (.cons (.ife (.cmp .Lt (.var 1) (.cst (.int 1))) (.cons (.ret (.cst (.int 0)))
      .nil) .nil)
      (.cons (.asg (.nm 2) (.idx (.var 0) (.cst (.int 1))))
      (.cons (.asg (.nm 3) (.bin .Mod (.idx (.var 0) (.cst (.int 0))) (.blt .len (.cons (.var 2) .nil))))
      (.cons (.asg (.nm 4) (.idx (.var 2) (.var 3)))
      (.cons (.ife (.cmp .GtE (.var 4) (.cst (.int 1000000000000000000))) (.cons (.seti (.var 2) (.var 3) (.bin .FloorDiv (.var 4) (.var 1)))
      (.cons (.ret (.bin .Mod (.var 4) (.var 1)))
      .nil)) .nil)
      (.cons (.seti (.var 0) (.cst (.int 0)) (.bin .Add (.idx (.var 0) (.cst (.int 0))) (.cst (.int 1))))
      (.cons (.asg (.nm 5) (.bin .Mod (.blt .int (.cons (.bin .Add (.bin .Mult (.var 4) (.cst (.int 48271))) (.bin .Mult (.idx (.var 0) (.cst (.int 0))) (.cst (.int 69621)))) .nil)) (.cst (.int 2147483647))))
      (.cons (.asg (.nm 5) (.bin .Mod (.blt .int (.cons (.bin .Add (.bin .Mult (.var 5) (.cst (.int 16807))) (.bin .Mult (.idx (.var 0) (.cst (.int 0))) (.cst (.int 7919)))) .nil)) (.cst (.int 1000000007))))
      (.cons (.ret (.bin .Mod (.bin .FloorDiv (.var 5) (.cst (.int 7))) (.var 1)))
      .nil)))))))))
def bState : Sms :=
      (.cons (.asg (.nm 1) (.mref (.comp (.nm 2) (.seq (.sl (.var 0) .nil (.cons (.cst (.int 63)) .nil))) .nil (.blt .abs (.cons (.var 2) .nil)))))
      (.cons (.ife (.cmp .Eq (.blt .len (.cons (.var 1) .nil)) (.cst (.int 0))) (.cons (.asg (.nm 1) (.mref (.list (.cons (.cst (.int 0)) .nil))))
      .nil) .nil)
      (.cons (.ret (.mref (.list (.cons (.cst (.int 0)) (.cons (.var 1) .nil)))))
      .nil)))
theorem take1 (G : Fns) {S : Store} {st c : Nat} {pos : Int} {cs : List Int} (R : Rnd S st c pos cs) (most : Int) (hm2 : most < 1073741824) :
    ∃ v S', evSs G bTake [.fz (.ref st), .fz (.int most), .un, .un, .un, .un] S = some (.ret (.int v) S') ∧ Drawn S st c most v S' := by
  have R' := R
  obtain ⟨h1, h2, h3, h4, h5, h6⟩ := R
  by_cases hm : 0 < most
  case neg =>
    have hlt : most < 1 := by omega
    refine ⟨0, S, ?_, fun h => absurd h hm, fun _ => rfl, ⟨pos, cs, R'⟩, rfl, fun _ _ _ => rfl⟩
    simp [bTake, hOf, cont, cmpD, okLt, fit_int, like_int, ltD_int, D.isNon, blOf, Cst.d, hlt]
  have hlt : ¬ most < 1 := by omega
  have hl : (0 : Int) < (cs.length : Int) := by
    have : 0 < cs.length := List.length_pos_iff.mpr h5
    omega
  obtain ⟨j, hj, hj2⟩ : ∃ j : Nat, pos % (cs.length : Int) = (j : Int) ∧ j < cs.length := ⟨(pos % (cs.length : Int)).toNat, by
    have := Int.emod_nonneg pos (by omega : (cs.length : Int) ≠ 0)
    omega, by
    have := Int.emod_nonneg pos (by omega : (cs.length : Int) ≠ 0)
    have := Int.emod_lt_of_pos pos hl
    omega⟩
  have hat : atI (cs.map D.int) (j : Int) = some (.int cs[j]) := by
    rw [atI_nat (by simpa using hj2)]
    simp [hj2]
  have hlp : 0 < cs.length := by omega
  have hdiv : ∀ (x : Int), CDiv x most := fun x => ⟨hm, hm2⟩
  have hix := ixN_nat hj2
  have hcj : 0 ≤ cs[j] := h6 _ (List.getElem_mem hj2)
  by_cases hbig : 1000000000000000000 ≤ cs[j]
  · have hb' : ¬ cs[j] < 1000000000000000000 := by omega
    refine ⟨cs[j] % most, S.set c (.con (.lst ((cs.set j (cs[j] / most)).map .int))), ?_, fun _ => ⟨Int.emod_nonneg _ (by omega), Int.emod_lt_of_pos _ hm⟩, fun h => absurd hm h, ⟨pos, _, R'.set j _ (Int.ediv_nonneg hcj (by omega))⟩, by simp, fun k _ hk => List.getElem?_set_ne hk.symm⟩
    simp [bTake, bindT, hOf, cont, cmpD, okLt, okEq, fit_int, like_int, ltD_int, D.isNon, blOf, binD, h1, h2, idxD, bltD, lenD, hm, Cst.d, hlt, atI0, atI1, hlp, hj, hat, hb', hdiv, setItem', hix, putC, setC, List.map_set]
  · have hb' : cs[j] < 1000000000000000000 := by omega
    have hx0 : ixN 2 0 = some 0 := by decide
    have hS : ∀ x : Cell, (List.set S st x)[st]? = some x := fun x => List.getElem?_set_self (List.getElem?_eq_some_iff.mp h1).1
    have hm1 : ∀ a b c d : Int, CMul a 48271 := fun a b c d => .inr ⟨by decide, by decide⟩
    have hm2' : ∀ a : Int, CMul a 48271 ∧ CMul a 69621 ∧ CMul a 16807 ∧ CMul a 7919 := fun a => ⟨.inr ⟨by decide, by decide⟩, .inr ⟨by decide, by decide⟩, .inr ⟨by decide, by decide⟩, .inr ⟨by decide, by decide⟩⟩
    have hd7 : ∀ a : Int, CDiv a 7 := fun a => ⟨by decide, by decide⟩
    refine ⟨(((cs[j] * 48271 + (pos + 1) * 69621) % 2147483647) * 16807 + (pos + 1) * 7919) % 1000000007 / 7 % most, S.set st (.con (.lst [.int (pos + 1), .ref c])), ?_, fun _ => ⟨Int.emod_nonneg _ (by omega), Int.emod_lt_of_pos _ hm⟩, fun h => absurd hm h, ⟨pos + 1, _, R'.next⟩, by simp, fun k hk _ => List.getElem?_set_ne hk.symm⟩
    simp [bTake, bindT, hOf, cont, cmpD, okLt, okEq, fit_int, like_int, ltD_int, D.isNon, blOf, binD, h1, h2, idxD, bltD, lenD, hm, Cst.d, hlt, atI0, atI1, hlp, hj, hat, hb', hdiv, setItem', hix, putC, setC, hx0, hS, hm2', hd7]
theorem run_def {T : Prog} {n : Nat} {key : Str × Option Str} {fd : Fd} (h : T.defs.lookup key = some fd) (ds : List D) (S : Store) (hl : ds.length = fd.np) : runF T (n + 1) key ds S = (evSs (Z.run T n) fd.body (ds.map Slot.fz ++ List.replicate (fd.ns - fd.np) .un) S).bind outR := by
  show (match T.defs.lookup key with
    | some fd => _
    | none => none) = _
  rw [h]
  simp only [hl, if_true]
  congr 1
theorem take_ok {T : Prog} (at_take : T.defs.lookup (("_law_take", none) : Str × Option Str) = some (⟨2, 6, bTake⟩ : Fd)) {n : Nat} {S : Store} {st c : Nat} {pos : Int} {cs : List Int} (R : Rnd S st c pos cs) (most : Int) (h : most < 1073741824) : ∃ v S', runF T (n + 1) ("_law_take", none) [.ref st, .int most] S = some (.int v, S') ∧ Drawn S st c most v S' := by
  obtain ⟨v, S', e, d⟩ := take1 (run T n) R most h
  refine ⟨v, S', ?_, d⟩
  rw [run_def at_take _ _ rfl]
  show (evSs (run T n) bTake [.fz (.ref st), .fz (.int most), .un, .un, .un, .un] S).bind _ = _
  rw [e]; rfl
theorem compGo_map {kp : Store → Prop} {f : D → Store → Option (Option D × Store)} {g : D → D} {S : Store} (hk : kp S) : ∀ xs : List D, (∀ x ∈ xs, f x S = some (some (g x), S)) → compGo kp f xs S = some (xs.map g, S)
  | [], _ => rfl
  | x :: xs, h => by
    unfold compGo
    rw [h x List.mem_cons_self]
    simp only [Option.bind_some]
    rw [if_pos hk, compGo_map hk xs fun y hy => h y (List.mem_cons_of_mem _ hy)]
    rfl
theorem cut_map (ns : List Int) (lo hi : Option Int) : ∃ ms : List Int, cutL (ns.map D.int) lo hi = ms.map D.int ∧ ms.length ≤ ns.length := by
  refine ⟨cutL ns lo hi, ?_, cutL_len _ _ _⟩
  unfold cutL
  rw [List.length_map, List.map_take, List.map_drop]
def absD : D → D
  | .int i => .int (if i < 0 then -i else i)
  | d => d
theorem state_ok {T : Prog} (at_state : T.defs.lookup (("_law_state", none) : Str × Option Str) = some (⟨1, 3, bState⟩ : Fd)) {n : Nat} {S : Store} {ns : List Int} (h : S[0]? = some (.lck (.lst (ns.map .int)))) (hl : ns.length ≤ 63) :
    ∃ st c S' cs, runF T (n + 1) ("_law_state", none) [.ref 0] S = some (.ref st, S') ∧ Rnd S' st c 0 cs ∧ S.length ≤ st ∧ S.length ≤ c ∧ ∀ k, k < S.length → S'[k]? = S[k]? := by
  obtain ⟨ms, e1, e2⟩ := cut_map ns none (some 63)
  have hsz : ms.length ≤ sizeLine := by
    have : (63 : Nat) ≤ sizeLine := by decide
    omega
  have hgo : ∀ (kp : Store → Prop) (f : D → Store → Option (Option D × Store)), kp S → (∀ x ∈ ms.map D.int, f x S = some (some (absD x), S)) → compGo kp f (ms.map D.int) S = some ((ms.map D.int).map absD, S) := fun kp f hk hf => compGo_map hk _ hf
  have hab : (ms.map D.int).map absD = (ms.map fun i => if i < 0 then -i else i).map D.int := by
    rw [List.map_map, List.map_map]; rfl
  generalize hks : (ms.map fun i => if i < 0 then -i else i) = ks at hab
  have hnn : ∀ x ∈ ks, 0 ≤ x := fun x hx => by
    rw [← hks] at hx
    obtain ⟨i, _, rfl⟩ := List.mem_map.mp hx
    split <;> omega
  have hkl : ks.length = ms.length := by rw [← hks, List.length_map]
  have a0 : ∀ c : Cell, (S ++ [c])[S.length]? = some c := fun c => by rw [List.getElem?_append_right (Nat.le_refl _)]; simp
  rw [run_def at_state [.ref 0] S rfl]
  have hc : evE (Z.run T n) (.comp (.nm 2) (.seq (.sl (.var 0) .nil (.cons (.cst (.int 63)) .nil))) .nil (.blt .abs (.cons (.var 2) .nil))) [.fz (.ref 0), .un, .un] S = some (.lst (ks.map D.int), S) := by
    rw [evE]
    have no : noOwn [.fz (.ref 0), .un, .un] (Tg.ix (.nm 2)) = true := rfl
    rw [if_pos no]
    have hi : evI (Z.run T n) (.seq (.sl (.var 0) .nil (.cons (.cst (.int 63)) .nil))) [.fz (.ref 0), .un, .un] S = some (.val (.lst (ms.map D.int)), ms.map D.int, S) := by
      simp [hOf, cont, h, Cst.d, ixO, slD, e1, itemsIn]
    rw [hi]
    simp only [Option.bind_some, lockS]
    rw [hgo _ _ (by rfl) ?_]
    · simp only [Option.bind_some, freeS, hab]
      rw [if_pos (by simp only [List.length_map, hkl]; exact hsz)]
    · intro x hx
      obtain ⟨i, _, rfl⟩ := List.mem_map.mp hx
      simp [bindT, wipeS, Tg.ix, hOf, cont, bltD, absD]
  have h1 : evS (Z.run T n) (.asg (.nm 1) (.mref (.comp (.nm 2) (.seq (.sl (.var 0) .nil (.cons (.cst (.int 63)) .nil))) .nil (.blt .abs (.cons (.var 2) .nil))))) [.fz (.ref 0), .un, .un] S = some (.nxt [.fz (.ref 0), .fz (.ref S.length), .un] (S ++ [.con (.lst (ks.map .int))])) := by
    rw [evS, evE, hc]
    simp [newRef, bindT]
  have hev : evSs (Z.run T n) bState [.fz (.ref 0), .un, .un] S = evSs (Z.run T n) (.cons (.ife (.cmp .Eq (.blt .len (.cons (.var 1) .nil)) (.cst (.int 0))) (.cons (.asg (.nm 1) (.mref (.list (.cons (.cst (.int 0)) .nil)))) .nil) .nil) (.cons (.ret (.mref (.list (.cons (.cst (.int 0)) (.cons (.var 1) .nil))))) .nil)) [.fz (.ref 0), .fz (.ref S.length), .un] (S ++ [.con (.lst (ks.map .int))]) := by
    unfold bState
    rw [evSs, h1]
    rfl
  have one1 : (1 : Nat) ≤ sizeLine := by decide
  show ∃ st c S' cs, (evSs (Z.run T n) bState [.fz (.ref 0), .un, .un] S).bind outR = _ ∧ _
  rw [hev]
  by_cases hz : ks = []
  · refine ⟨S.length + 1 + 1, S.length + 1, ((S ++ [.con (.lst (ks.map .int))]) ++ [.con (.lst [.int 0])]) ++ [.con (.lst [.int 0, .ref (S.length + 1)])], [0], ?_, ⟨?_, ?_, by omega, by omega, by simp, by simp⟩, by omega, by omega, fun k hk => ?_⟩
    · subst hz
      simp [hOf, cont, newRef, bindT, a0, bltD, lenD, eq_ii, Cst.d, blOf, outR, len2, one1]
    · rw [List.getElem?_append_right (by simp)]; simp
    · rw [List.getElem?_append_left (by simp), List.getElem?_append_right (by simp)]; simp
    · rw [List.getElem?_append_left (by simp; omega), List.getElem?_append_left (by simp; omega), List.getElem?_append_left hk]
  · have hne : ¬ ((ks.length : Int) = 0) := by
      have : 0 < ks.length := List.length_pos_iff.mpr hz
      omega
    refine ⟨S.length + 1, S.length, (S ++ [.con (.lst (ks.map .int))]) ++ [.con (.lst [.int 0, .ref S.length])], ks, ?_, ⟨?_, ?_, by omega, by omega, hz, hnn⟩, by omega, by omega, fun k hk => ?_⟩
    · simp [hOf, cont, newRef, bindT, a0, bltD, lenD, eq_ii, Cst.d, blOf, outR, len2, one1, hne, hz]
    · rw [List.getElem?_append_right (by simp)]; simp
    · rw [List.getElem?_append_left (by simp), List.getElem?_append_right (by simp)]; simp
    · rw [List.getElem?_append_left (by simp; omega), List.getElem?_append_left hk]
theorem repr_bl (b : Bool) : bltD .repr [.bl b] = some (.str (if b then "True" else "False")) := by
  have h1 : (D.bl b).fit = true := fit_bl b
  have h2 : (D.bl b).py.showable = true := by cases b <;> decide +kernel
  have h3 : (D.bl b).py.shown = (if b then "True" else "False" : Str) := by cases b <;> decide +kernel
  have h4 : (D.bl b).py.shown.length ≤ sizeLine := by cases b <;> decide +kernel
  simp only [bltD]
  rw [if_pos ⟨h1, h2, h4⟩, h3]
theorem seq1 {G : Fns} {s : Sm} {r : Sms} {ρ ρ' : Env'} {S S' : Store} (h : evS G s ρ S = some (.nxt ρ' S')) : evSs G (.cons s r) ρ S = evSs G r ρ' S' := by
  rw [evSs, h]; rfl
theorem sOk {x : Str} (h : x.cps.all (fun c => decide (c < 1114112)) = true) : ∀ c ∈ x.cps.toList, PyData.strOk ⟨#[c]⟩ = true := by
  intro c hc
  have := Array.all_eq_true_iff_forall_mem.mp h c (Array.mem_toList_iff.mp hc)
  unfold PyData.strOk
  simpa using this
/-- what a walk may end with -/
def Ends (P : Env' → Store → Prop) (B : Env' → Store → Prop) (R : D → Store → Prop) : Out → Prop
  | .nxt ρ S => P ρ S
  | .cnt ρ S => P ρ S
  | .brk ρ S => B ρ S
  | .ret d S => R d S
theorem forGo_gen {kp : Store → Env' → Prop} {f : D → Env' → Store → Option Out} {P : List D → Env' → Store → Prop} {B : Env' → Store → Prop} {R : D → Store → Prop}
    (hk : ∀ pre ρ S, P pre ρ S → kp S ρ) (hb : ∀ ρ S, B ρ S → kp S ρ) (hr : ∀ pre ρ S d S', P pre ρ S → R d S' → kp S' ρ) : ∀ (xs pre : List D), (∀ p x q, xs = p ++ x :: q → ∀ ρ S, P (pre ++ p) ρ S → ∃ o, f x ρ S = some o ∧ Ends (P (pre ++ p ++ [x])) B R o) →
    ∀ ρ S, P pre ρ S → ∃ o, forGo kp f xs ρ S = some o ∧ Ends (P (pre ++ xs)) B R o
  | [], pre, _, ρ, S, h => ⟨.nxt ρ S, rfl, by rw [List.append_nil]; exact h⟩
  | x :: xs, pre, hf, ρ, S, h => by
    obtain ⟨o, e, ho⟩ := hf [] x xs rfl ρ S (by rw [List.append_nil]; exact h)
    rw [List.append_nil] at ho
    have rest : ∀ ρ1 S1, P (pre ++ [x]) ρ1 S1 → ∃ o, forGo kp f xs ρ1 S1 = some o ∧ Ends (P (pre ++ (x :: xs))) B R o := fun ρ1 S1 h1 => by
      obtain ⟨o2, e2, h2⟩ := forGo_gen hk hb hr xs (pre ++ [x]) (fun p y q hq ρ S hp => by
        have := hf (x :: p) y q (by rw [hq]; rfl) ρ S (by simpa using hp)
        simpa using this) ρ1 S1 h1
      exact ⟨o2, e2, by simpa using h2⟩
    cases o with
    | nxt ρ1 S1 =>
      obtain ⟨o2, e2, h2⟩ := rest ρ1 S1 ho
      refine ⟨o2, ?_, h2⟩
      unfold forGo
      rw [e]
      simp only [Option.bind_some]
      rw [if_pos (hk _ _ _ ho)]
      exact e2
    | cnt ρ1 S1 =>
      obtain ⟨o2, e2, h2⟩ := rest ρ1 S1 ho
      refine ⟨o2, ?_, h2⟩
      unfold forGo
      rw [e]
      simp only [Option.bind_some]
      rw [if_pos (hk _ _ _ ho)]
      exact e2
    | brk ρ1 S1 =>
      refine ⟨.brk ρ1 S1, ?_, ho⟩
      unfold forGo
      rw [e]
      simp only [Option.bind_some]
      rw [if_pos (hb _ _ ho)]
    | ret d S1 =>
      refine ⟨.ret d S1, ?_, ho⟩
      unfold forGo
      rw [e]
      simp only [Option.bind_some]
      rw [if_pos (hr _ _ _ _ _ h ho)]
theorem contV {v : D} (hv : ∀ n, v ≠ .ref n) (ρ ρ' : Env') (S S' : Store) : cont ρ' S' (.val v) = cont ρ S (.val v) := by
  cases v <;> first | rfl | exact absurd rfl (hv _)
theorem lockV {v : D} (hv : ∀ n, v ≠ .ref n) (ρ : Env') (S : Store) : lockS ρ S (.val v) = some (S, none) := by
  cases v <;> first | rfl | exact absurd rfl (hv _)
/-- a for over what is no part of the store -/
theorem for_gen {G : Fns} {t : Tg} {it : It} {b : Sms} {ρ : Env'} {S S1 : Store} {v : D} {xs : List D} {P : List D → Env' → Store → Prop} {B : Env' → Store → Prop} {R : D → Store → Prop} (hv : ∀ n, v ≠ .ref n) (hi : evI G it ρ S = some (.val v, xs, S1)) (h0 : P [] ρ S1)
    (hf : ∀ p x q, xs = p ++ x :: q → ∀ ρ S, P p ρ S → ∃ ρ2, bindT t x ρ = some ρ2 ∧ ∃ o, evSs G b ρ2 S = some o ∧ Ends (P (p ++ [x])) B R o) : ∃ o, evS G (.for_ t it b) ρ S = some o ∧ Ends (fun ρ S => P xs ρ S ∨ B ρ S) (fun _ _ => False) R o := by
  obtain ⟨o, e, h⟩ := forGo_gen (kp := fun S' ρ' => cont ρ' S' (.val v) = cont ρ S1 (.val v)) (f := fun d ρ' S' => (bindT t d ρ').bind fun ρ2 => evSs G b ρ2 S') (P := P) (B := B) (R := R) (fun _ ρ' S' _ => contV hv _ _ _ _) (fun ρ' S' _ => contV hv _ _ _ _) (fun _ ρ' S' _ _ _ _ => contV hv _ _ _ _) xs [] (fun p x q hq ρ S hp => by
    obtain ⟨ρ2, e1, o, e2, h⟩ := hf p x q hq ρ S hp
    exact ⟨o, by rw [e1]; exact e2, by simpa using h⟩) ρ S1 h0
  rw [List.nil_append] at h
  have hev : evS G (.for_ t it b) ρ S = o.after none := by
    rw [evS, hi]
    simp only [Option.bind_some, noSlot, if_true, lockV hv]
    rw [e]
    rfl
  rw [hev]
  cases o with
  | nxt ρ S => exact ⟨_, rfl, .inl h⟩
  | cnt ρ S => exact ⟨_, rfl, .inl h⟩
  | brk ρ S => exact ⟨_, rfl, .inr h⟩
  | ret d S => exact ⟨_, rfl, h⟩
/-- the same, with neither break nor return -/
theorem for_pre {G : Fns} {t : Tg} {it : It} {b : Sms} {ρ : Env'} {S S1 : Store} {v : D} {xs : List D} {P : List D → Env' → Store → Prop} (hv : ∀ n, v ≠ .ref n) (hi : evI G it ρ S = some (.val v, xs, S1)) (h0 : P [] ρ S1)
    (hf : ∀ p x q, xs = p ++ x :: q → ∀ ρ S, P p ρ S → ∃ ρ2 ρ' S', bindT t x ρ = some ρ2 ∧ evSs G b ρ2 S = some (.nxt ρ' S') ∧ P (p ++ [x]) ρ' S') : ∃ ρ' S', evS G (.for_ t it b) ρ S = some (.nxt ρ' S') ∧ P xs ρ' S' := by
  obtain ⟨o, e, h⟩ := for_gen (B := fun _ _ => False) (R := fun _ _ => False) hv hi h0 (fun p x q hq ρ S hp => by
    obtain ⟨ρ2, ρ', S', e1, e2, h⟩ := hf p x q hq ρ S hp
    exact ⟨ρ2, e1, _, e2, h⟩)
  cases o with
  | nxt ρ S => exact ⟨_, _, e, by simpa [Ends] using h⟩
  | cnt ρ S => exact absurd e (by
      intro e
      rw [evS, hi] at e
      simp only [Option.bind_some, noSlot, if_true, lockV hv] at e
      revert e
      generalize forGo _ _ _ _ _ = z
      cases z with
      | none => simp
      | some o => cases o <;> simp [Out.after, freeS])
  | brk ρ S => exact absurd h id
  | ret d S => exact absurd h id
/-- a for of the same kind of state throughout -/
theorem for_ok {G : Fns} {t : Tg} {it : It} {b : Sms} {ρ : Env'} {S S1 : Store} {v : D} {xs : List D} {P : Env' → Store → Prop} (hv : ∀ n, v ≠ .ref n) (hi : evI G it ρ S = some (.val v, xs, S1)) (h0 : P ρ S1)
    (hf : ∀ x ∈ xs, ∀ ρ S, P ρ S → ∃ ρ2 ρ' S', bindT t x ρ = some ρ2 ∧ evSs G b ρ2 S = some (.nxt ρ' S') ∧ P ρ' S') : ∃ ρ' S', evS G (.for_ t it b) ρ S = some (.nxt ρ' S') ∧ P ρ' S' :=
  for_pre (P := fun _ => P) hv hi h0 fun p x q hq ρ S hp => hf x (by rw [hq]; simp) ρ S hp
/-- walks that make a list -/
noncomputable def stepC (G : Fns) (t : Tg) (c : Ar) (e : Ex) (ρ : Env') (d : D) (S' : Store) : Option (Option D × Store) := (bindT t d (wipeS ρ t.ix)).bind fun ρ' => match c with
        | .nil => (evE G e ρ' S').map fun r => (some r.1, r.2)
        | .cons c _ => (evE G c ρ' S').bind fun q => (blOf q.1).bind fun b => if b then (evE G e ρ' q.2).map fun r => (some r.1, r.2) else some (none, q.2)
theorem compGo_fm {kp : Store → Prop} {f : D → Store → Option (Option D × Store)} {g : D → Option D} {S : Store} (hk : kp S) : ∀ xs : List D, (∀ x ∈ xs, f x S = some (g x, S)) → compGo kp f xs S = some (xs.filterMap g, S)
  | [], _ => rfl
  | x :: xs, h => by
    unfold compGo
    rw [h x List.mem_cons_self]
    simp only [Option.bind_some]
    rw [if_pos hk, compGo_fm hk xs fun y hy => h y (List.mem_cons_of_mem _ hy)]
    cases hg : g x with
    | none => simp [hg]
    | some y => simp [hg]
theorem comp_ok {G : Fns} {t : Tg} {it : It} {c : Ar} {e : Ex} {ρ : Env'} {S S1 : Store} {v : D} {xs : List D} {g : D → Option D} (no : noOwn ρ t.ix = true) (hv : ∀ n, v ≠ .ref n) (hi : evI G it ρ S = some (.val v, xs, S1)) (hs : ∀ x ∈ xs, stepC G t c e ρ x S1 = some (g x, S1)) (hl : (xs.filterMap g).length ≤ sizeLine) :
    evE G (.comp t it c e) ρ S = some (.lst (xs.filterMap g), S1) := by
  rw [evE, if_pos no, hi]
  simp only [Option.bind_some, lockV hv]
  have := compGo_fm (kp := fun S' => cont ρ S' (.val v) = cont ρ S1 (.val v)) (f := stepC G t c e ρ) (g := g) (S := S1) rfl xs hs
  refine Eq.trans (congrArg (fun z => Option.bind z _) this) ?_
  simp only [Option.bind_some, freeS]
  rw [if_pos hl]
theorem compGo_inv {kp : Store → Prop} {f : D → Store → Option (Option D × Store)} {I : Store → Prop} {Q : List D → Prop} (hk : ∀ S, I S → kp S) (h0 : Q []) : ∀ (xs : List D), (∀ x ∈ xs, ∀ S, I S → ∃ r S', f x S = some (r, S') ∧ I S' ∧ ∀ ys, Q ys → Q (r.toList ++ ys)) → ∀ S, I S → ∃ ys S', compGo kp f xs S = some (ys, S') ∧ I S' ∧ Q ys ∧ ys.length ≤ xs.length
  | [], _, S, h => ⟨[], S, rfl, h, h0, Nat.le_refl _⟩
  | x :: xs, hf, S, h => by
    obtain ⟨r, S1, e1, i1, q1⟩ := hf x List.mem_cons_self S h
    obtain ⟨ys, S2, e2, i2, q2, l2⟩ := compGo_inv hk h0 xs (fun y hy => hf y (List.mem_cons_of_mem _ hy)) S1 i1
    refine ⟨r.toList ++ ys, S2, ?_, i2, q1 _ q2, ?_⟩
    · unfold compGo
      rw [e1]
      simp only [Option.bind_some]
      rw [if_pos (hk _ i1), e2]
      cases r <;> rfl
    · cases r <;> simp <;> omega
theorem comp_inv {G : Fns} {t : Tg} {it : It} {c : Ar} {e : Ex} {ρ : Env'} {S S1 : Store} {v : D} {xs : List D} {I : Store → Prop} {Q : List D → Prop} (no : noOwn ρ t.ix = true) (hv : ∀ n, v ≠ .ref n) (hi : evI G it ρ S = some (.val v, xs, S1)) (hI : I S1) (h0 : Q [])
    (hs : ∀ x ∈ xs, ∀ S, I S → ∃ r S', stepC G t c e ρ x S = some (r, S') ∧ I S' ∧ ∀ ys, Q ys → Q (r.toList ++ ys)) (hl : xs.length ≤ sizeLine) :
    ∃ ys S', evE G (.comp t it c e) ρ S = some (.lst ys, S') ∧ I S' ∧ Q ys ∧ ys.length ≤ xs.length := by
  obtain ⟨ys, S', e1, i1, q1, l1⟩ := compGo_inv (kp := fun S' => cont ρ S' (.val v) = cont ρ S1 (.val v)) (f := stepC G t c e ρ) (I := I) (Q := Q) (fun S _ => contV hv _ _ _ _) h0 xs hs S1 hI
  refine ⟨ys, S', ?_, i1, q1, l1⟩
  rw [evE, if_pos no, hi]
  simp only [Option.bind_some, lockV hv]
  refine Eq.trans (congrArg (fun z => Option.bind z _) e1) ?_
  simp only [Option.bind_some, freeS]
  rw [if_pos (by omega)]
end Z

set_option Elab.async false
set_option linter.all false
set_option maxRecDepth 100000
set_option maxHeartbeats 1000000
namespace Z
open PySem PySem.Spec PyProof.Rows L2
theorem x_forGo_nil {kp : Store → Env' → Prop} {f : D → Env' → Store → Option Out} {ρ : Env'} {S : Store} : forGo kp f [] ρ S = some (.nxt ρ S) := rfl
open Classical in
theorem x_forGo_cons {kp : Store → Env' → Prop} {f : D → Env' → Store → Option Out} {x : D} {xs : List D} {ρ : Env'} {S : Store} : forGo kp f (x :: xs) ρ S = bnd (f x ρ S) (k := ⟨fun o => match o with
    | .nxt ρ' S' => if kp S' ρ' then forGo kp f xs ρ' S' else none
    | .cnt ρ' S' => if kp S' ρ' then forGo kp f xs ρ' S' else none
    | .brk ρ' S' => if kp S' ρ' then some (.brk ρ' S') else none
    | .ret d S' => if kp S' ρ then some (.ret d S') else none⟩) := by
  rw [forGo]; rfl
/-- a for over a list of the store that stays as it is -/
theorem for_ref {G : Fns} {t : Tg} {it : It} {b : Sms} {ρ : Env'} {S S1 : Store} {n : Nat} {xs : List D} {P : List D → Env' → Store → Prop} {B : Env' → Store → Prop} {R : D → Store → Prop} (hi : evI G it ρ S = some (.val (.ref n), xs, S1)) (hn : S1[n]? = some (.con (.lst xs)))
    (hP : ∀ p ρ S, P p ρ S → S[n]? = some (.con (.lst xs))) (hB : ∀ ρ S, B ρ S → S[n]? = some (.con (.lst xs))) (hR : ∀ d S, R d S → S[n]? = some (.con (.lst xs))) (h0 : P [] ρ S1)
    (hf : ∀ p x q, xs = p ++ x :: q → ∀ ρ S, P p ρ S → ∃ ρ2, bindT t x ρ = some ρ2 ∧ ∃ o, evSs G b ρ2 S = some o ∧ Ends (P (p ++ [x])) B R o) : ∃ o, evS G (.for_ t it b) ρ S = some o ∧ Ends (fun ρ S => P xs ρ S ∨ B ρ S) (fun _ _ => False) R o := by
  have c1 : ∀ ρ S, S[n]? = some (.con (.lst xs)) → cont ρ S (.val (.ref n)) = some (.lst xs) := fun ρ S h => by simp [cont, h]
  obtain ⟨o, e, h⟩ := forGo_gen (kp := fun S' ρ' => cont ρ' S' (.val (.ref n)) = cont ρ S1 (.val (.ref n))) (f := fun d ρ' S' => (bindT t d ρ').bind fun ρ2 => evSs G b ρ2 S') (P := P) (B := B) (R := R) (fun p ρ' S' h => by rw [c1 _ _ (hP _ _ _ h), c1 _ _ hn]) (fun ρ' S' h => by rw [c1 _ _ (hB _ _ h), c1 _ _ hn]) (fun _ ρ' S' d S2 _ h => by rw [c1 _ _ (hR _ _ h), c1 _ _ hn]) xs [] (fun p x q hq ρ S hp => by
    obtain ⟨ρ2, e1, o, e2, h⟩ := hf p x q hq ρ S hp
    exact ⟨o, by rw [e1]; exact e2, by simpa using h⟩) ρ S1 h0
  rw [List.nil_append] at h
  have hev : evS G (.for_ t it b) ρ S = o.after none := by
    rw [evS, hi]
    simp only [Option.bind_some, noSlot, if_true]
    have hl : lockS ρ S1 (.val (.ref n)) = some (S1, none) := by simp [lockS, hn]
    rw [hl]
    simp only [Option.bind_some]
    rw [e]
    rfl
  rw [hev]
  cases o with
  | nxt ρ S => exact ⟨_, rfl, .inl h⟩
  | cnt ρ S => exact ⟨_, rfl, .inl h⟩
  | brk ρ S => exact ⟨_, rfl, .inr h⟩
  | ret d S => exact ⟨_, rfl, h⟩
@[simp] theorem cont_int {ρ : Env'} {S : Store} {i : Int} : cont ρ S (.val (.int i)) = some (.int i) := rfl
@[simp] theorem cont_str {ρ : Env'} {S : Store} {i : Str} : cont ρ S (.val (.str i)) = some (.str i) := rfl
@[simp] theorem cont_bl {ρ : Env'} {S : Store} {i : Bool} : cont ρ S (.val (.bl i)) = some (.bl i) := rfl
@[simp] theorem cont_non {ρ : Env'} {S : Store} : cont ρ S (.val .non) = some .non := rfl
@[simp] theorem cont_tup {ρ : Env'} {S : Store} {i : List D} : cont ρ S (.val (.tup i)) = some (.tup i) := rfl
@[simp] theorem cont_lst {ρ : Env'} {S : Store} {i : List D} : cont ρ S (.val (.lst i)) = some (.lst i) := rfl
@[simp] theorem cont_dK {ρ : Env'} {S : Store} {i : List (Key × D)} : cont ρ S (.val (.dK i)) = some (.dK i) := rfl
@[simp] theorem cont_dT {ρ : Env'} {S : Store} {i : List (List Key × D)} : cont ρ S (.val (.dT i)) = some (.dT i) := rfl
@[simp] theorem cont_ref {ρ : Env'} {S : Store} {n : Nat} : cont ρ S (.val (.ref n)) = match S[n]? with
    | some (.con d) => some d
    | some (.lck d) => some d
    | _ => none := rfl
@[simp] theorem cont_slot {ρ : Env'} {S : Store} {i : Nat} : cont ρ S (.slot i) = match ρ[i]? with
    | some (.own d) => some d
    | _ => none := rfl
theorem filterMap_if {α : Type} (p : α → Bool) (xs : List α) : xs.filterMap (fun x => if p x then some x else none) = xs.filter p := by
  induction xs with
  | nil => rfl
  | cons x xs ih =>
    by_cases h : p x = true
    · rw [List.filterMap_cons_some (b := x) (by simp [h]), List.filter_cons_of_pos h, ih]
    · rw [List.filterMap_cons_none (by simp [h]), List.filter_cons_of_neg h, ih]
/-- a comprehension that keeps some of what it walks, f told -/
theorem comp_keep {α : Type} {G : Fns} {i : Nat} {it : Z.It} {c : Ex} {ρ : Env'} {S S1 : Store} {v : D} {f : α → D} {xs : List α} {p : α → Bool} (no : noOwn ρ [i] = true) (hv : ∀ n, v ≠ .ref n) (hi : evI G it ρ S = some (.val v, xs.map f, S1)) (hi2 : i < ρ.length)
    (hc : ∀ x ∈ xs, evE G c ((wipeS ρ [i]).set i (.fz (f x))) S1 = some (.bl (p x), S1)) (hl : xs.length ≤ 1000) : evE G (.comp (.nm i) it (.cons c .nil) (.var i)) ρ S = some (.lst ((xs.filter p).map f), S1) := by
  have hs : ∀ ys : List α, ∃ g : D → Option D, True := fun _ => ⟨fun _ => none, trivial⟩
  have big : (1000 : Nat) ≤ sizeLine := by decide
  have key : compGo (fun S' => cont ρ S' (.val v) = cont ρ S1 (.val v)) (stepC G (.nm i) (.cons c .nil) (.var i) ρ) (xs.map f) S1 = some ((xs.filter p).map f, S1) := by
    clear hi hl hs
    induction xs with
    | nil => rfl
    | cons x xs ih =>
      have hx := hc x List.mem_cons_self
      have l : i < (wipeS ρ [i]).length := by simp [wipeS]; exact hi2
      have e : stepC G (.nm i) (.cons c .nil) (.var i) ρ (f x) S1 = some (if p x then some (f x) else none, S1) := by
        have hx' : evE G c ((wipeS ρ (Tg.nm i).ix).set i (.fz (f x))) S1 = some (.bl (p x), S1) := hx
        have l' : i < (wipeS ρ (Tg.nm i).ix).length := l
        have g1 : ((wipeS ρ (Tg.nm i).ix).set i (.fz (f x)))[i]? = some (.fz (f x)) := List.getElem?_set_self l'
        cases hp : p x with
        | true => rw [hp] at hx'; simp [stepC, bindT, hx', blOf, g1]
        | false => rw [hp] at hx'; simp [stepC, bindT, hx', blOf]
      unfold compGo
      rw [List.map_cons]
      simp only
      rw [e]
      simp only [Option.bind_some]
      rw [if_pos (by trivial), ih (fun y hy => hc y (List.mem_cons_of_mem _ hy))]
      cases hp : p x <;> simp [hp, List.filter_cons]
  rw [evE, if_pos (show noOwn ρ (Tg.nm i).ix = true from no), hi]
  simp only [Option.bind_some, lockV hv]
  refine Eq.trans (congrArg (fun z => Option.bind z _) key) ?_
  simp only [Option.bind_some, freeS]
  rw [if_pos (by rw [List.length_map]; have := List.length_filter_le p xs; omega)]
end Z

set_option Elab.async false
set_option linter.all false
set_option maxRecDepth 100000
set_option maxHeartbeats 1000000
namespace Z
open PySem PySem.Spec PyProof.Rows L2
theorem map_split {α : Type} {f : α → D} {xs : List α} {p q : List D} {x : D} (h : xs.map f = p ++ x :: q) : ∃ y, xs = xs.take p.length ++ y :: xs.drop (p.length + 1) ∧ f y = x ∧ xs.take (p ++ [x]).length = xs.take p.length ++ [y] := by
  have hl : p.length < xs.length := by
    have := congrArg List.length h
    simp at this; omega
  refine ⟨xs[p.length], ?_, ?_, ?_⟩
  · rw [List.getElem_cons_drop, List.take_append_drop]
  · have h1 : (xs.map f)[p.length]? = some x := by rw [h]; simp
    rw [List.getElem?_map, List.getElem?_eq_getElem hl] at h1
    simpa using h1
  · rw [List.length_append, List.length_singleton, List.take_succ, List.getElem?_eq_getElem hl]; rfl
/-- a for over what is told by f -/
theorem for_map {α : Type} {G : Fns} {t : Tg} {it : Z.It} {b : Sms} {ρ : Env'} {S S1 : Store} {v : D} (f : α → D) (xs : List α) (P : List α → Env' → Store → Prop) (hv : ∀ n, v ≠ .ref n) (hi : evI G it ρ S = some (.val v, xs.map f, S1)) (h0 : P [] ρ S1)
    (hf : ∀ p x q, xs = p ++ x :: q → ∀ ρ S, P p ρ S → ∃ ρ2 ρ' S', bindT t (f x) ρ = some ρ2 ∧ evSs G b ρ2 S = some (.nxt ρ' S') ∧ P (p ++ [x]) ρ' S') : ∃ ρ' S', evS G (.for_ t it b) ρ S = some (.nxt ρ' S') ∧ P xs ρ' S' := by
  obtain ⟨ρ', S', e, h⟩ := for_pre (P := fun p ρ S => P (xs.take p.length) ρ S) hv hi h0 (fun p x q hq ρ S hp => by
    obtain ⟨y, e1, e2, e3⟩ := map_split hq
    rw [e3, ← e2]
    exact hf _ y _ e1 ρ S hp)
  refine ⟨ρ', S', e, ?_⟩
  simpa using h
/-- the same with all ends -/
theorem for_mapg {α : Type} {G : Fns} {t : Tg} {it : Z.It} {b : Sms} {ρ : Env'} {S S1 : Store} {v : D} (f : α → D) (xs : List α) (P : List α → Env' → Store → Prop) (B : Env' → Store → Prop) (R : D → Store → Prop) (hv : ∀ n, v ≠ .ref n) (hi : evI G it ρ S = some (.val v, xs.map f, S1)) (h0 : P [] ρ S1)
    (hf : ∀ p x q, xs = p ++ x :: q → ∀ ρ S, P p ρ S → ∃ ρ2, bindT t (f x) ρ = some ρ2 ∧ ∃ o, evSs G b ρ2 S = some o ∧ Ends (P (p ++ [x])) B R o) : ∃ o, evS G (.for_ t it b) ρ S = some o ∧ Ends (fun ρ S => P xs ρ S ∨ B ρ S) (fun _ _ => False) R o := by
  obtain ⟨o, e, h⟩ := for_gen (P := fun p ρ S => P (xs.take p.length) ρ S) (B := B) (R := R) hv hi h0 (fun p x q hq ρ S hp => by
    obtain ⟨y, e1, e2, e3⟩ := map_split hq
    rw [e3, ← e2]
    exact hf _ y _ e1 ρ S hp)
  refine ⟨o, e, ?_⟩
  simpa using h
theorem for_refm {α : Type} {G : Fns} {t : Tg} {it : Z.It} {b : Sms} {ρ : Env'} {S S1 : Store} {n : Nat} (f : α → D) (xs : List α) (P : List α → Env' → Store → Prop) (B : Env' → Store → Prop) (R : D → Store → Prop) (hi : evI G it ρ S = some (.val (.ref n), xs.map f, S1)) (hn : S1[n]? = some (.con (.lst (xs.map f))))
    (hP : ∀ p ρ S, P p ρ S → S[n]? = some (.con (.lst (xs.map f)))) (hB : ∀ ρ S, B ρ S → S[n]? = some (.con (.lst (xs.map f)))) (hR : ∀ d S, R d S → S[n]? = some (.con (.lst (xs.map f)))) (h0 : P [] ρ S1)
    (hf : ∀ p x q, xs = p ++ x :: q → ∀ ρ S, P p ρ S → ∃ ρ2, bindT t (f x) ρ = some ρ2 ∧ ∃ o, evSs G b ρ2 S = some o ∧ Ends (P (p ++ [x])) B R o) : ∃ o, evS G (.for_ t it b) ρ S = some o ∧ Ends (fun ρ S => P xs ρ S ∨ B ρ S) (fun _ _ => False) R o := by
  obtain ⟨o, e, h⟩ := for_ref (P := fun p ρ S => P (xs.take p.length) ρ S) (B := B) (R := R) hi hn (fun p => hP _) hB hR h0 (fun p x q hq ρ S hp => by
    obtain ⟨y, e1, e2, e3⟩ := map_split hq
    rw [e3, ← e2]
    exact hf _ y _ e1 ρ S hp)
  refine ⟨o, e, ?_⟩
  simpa using h
theorem ixN_last {n : Nat} : ixN (n + 1) (-1) = some n := by
  unfold ixN
  rw [if_neg (by omega)]
  have : (0 : Int) ≤ -1 + ((n + 1 : Nat) : Int) := by omega
  simp
  omega
theorem set_last {α : Type} (xs : List α) (x y : α) : (xs ++ [x]).set xs.length y = xs ++ [y] := by
  induction xs with
  | nil => rfl
  | cons a xs ih => rw [List.cons_append, List.length_cons, List.set_cons_succ, ih]; rfl
@[simp] theorem idx_l {xs : List D} {i : Int} : idxD (.lst xs) (.int i) = atI xs i := rfl
@[simp] theorem idx_t {xs : List D} {i : Int} : idxD (.tup xs) (.int i) = atI xs i := rfl
@[simp] theorem len_l {xs : List D} : bltD .len [.lst xs] = some (.int xs.length) := rfl
@[simp] theorem len_t {xs : List D} : bltD .len [.tup xs] = some (.int xs.length) := rfl
@[simp] theorem add_ii {i j : Int} : binD .Add (.int i) (.int j) = some (.int (i + j)) := rfl
@[simp] theorem sub_ii {i j : Int} : binD .Sub (.int i) (.int j) = some (.int (i - j)) := rfl
@[simp] theorem blOf_bl {b : Bool} : blOf (.bl b) = some b := rfl
@[simp] theorem intOf_int {b : Int} : intOf (.int b) = some b := rfl
@[simp] theorem items_l {xs : List D} : itemsIn (.lst xs) = some xs := rfl
@[simp] theorem items_t {xs : List D} : itemsIn (.tup xs) = some xs := rfl
@[simp] theorem run_fn {T : Prog} {n : Nat} : (Z.run T n).fn = runF T n := rfl
@[simp] theorem run_fld {T : Prog} {n : Nat} : (Z.run T n).fld = T.fld := rfl
end Z

set_option Elab.async false
set_option linter.all false
set_option maxRecDepth 100000
set_option maxHeartbeats 1000000
namespace Z
open PySem PySem.Spec PyProof.Rows L2
theorem strOk_app (a b : Str) : PyData.strOk (a ++ b) = (PyData.strOk a && PyData.strOk b) := by
  unfold PyData.strOk
  show (a.cps ++ b.cps).all _ = _
  rw [Array.all_append]
theorem len_app (a b : Str) : (a ++ b).length = a.length + b.length := by
  show (a.cps ++ b.cps).size = _
  rw [Array.size_append]; rfl
theorem join_ok {B : Nat} : ∀ ts : List Str, (∀ t ∈ ts, PyData.strOk t = true ∧ t.length ≤ B) → PyData.strOk (Str.join ", " ts) = true ∧ (Str.join ", " ts).length ≤ (B + 2) * ts.length
  | [], _ => ⟨by decide +kernel, by rw [show Str.join ", " ([] : List Str) = Str.empty from rfl]; exact Nat.zero_le _⟩
  | [t], h => by
    obtain ⟨a, b⟩ := h t List.mem_cons_self
    rw [show Str.join ", " [t] = t from rfl]
    exact ⟨a, by simp; omega⟩
  | t :: u :: r, h => by
    obtain ⟨a, b⟩ := h t List.mem_cons_self
    obtain ⟨c, d⟩ := join_ok (u :: r) fun z hz => h z (List.mem_cons_of_mem _ hz)
    rw [show Str.join ", " (t :: u :: r) = t ++ ", " ++ Str.join ", " (u :: r) from rfl]
    refine ⟨by rw [strOk_app, strOk_app, a, c]; decide +kernel, ?_⟩
    rw [len_app, len_app]
    have e : (", " : Str).length = 2 := rfl
    rw [e]
    have : (B + 2) * (t :: u :: r).length = (B + 2) + (B + 2) * (u :: r).length := by rw [List.length_cons, Nat.mul_add, Nat.mul_one, Nat.add_comm]
    rw [this]
    omega
theorem listText_ok {B : Nat} {ts : List Str} (h : ∀ t ∈ ts, PyData.strOk t = true ∧ t.length ≤ B) : PyData.strOk (listText ts) = true ∧ (listText ts).length ≤ (B + 2) * ts.length + 2 := by
  obtain ⟨a, b⟩ := join_ok ts h
  rw [listText_eq_join]
  refine ⟨by rw [strOk_app, strOk_app, a]; decide +kernel, ?_⟩
  rw [len_app, len_app]
  have e : ("[" : Str).length = 1 := rfl
  have e2 : ("]" : Str).length = 1 := rfl
  rw [e, e2]; omega
theorem tupleText_ok {B : Nat} {ts : List Str} (h : ∀ t ∈ ts, PyData.strOk t = true ∧ t.length ≤ B) : PyData.strOk (tupleText ts) = true ∧ (tupleText ts).length ≤ (B + 2) * ts.length + 3 := by
  obtain ⟨a, b⟩ := join_ok ts h
  unfold tupleText
  by_cases c : (ts.length == 1) = true
  · rw [if_pos c]
    refine ⟨by rw [strOk_app, strOk_app, a]; decide +kernel, ?_⟩
    rw [len_app, len_app]
    have e : ("(" : Str).length = 1 := rfl
    have e2 : ((",)" : String) : Str).length = 2 := rfl
    rw [e, e2]; omega
  · rw [if_neg c]
    refine ⟨by rw [strOk_app, strOk_app, a]; decide +kernel, ?_⟩
    rw [len_app, len_app]
    have e : ("(" : Str).length = 1 := rfl
    have e2 : ((")" : String) : Str).length = 1 := rfl
    rw [e, e2]; omega
/-- how long a thing's text is at most -/
def Txt (B : Nat) (d : D) : Prop := d.py.showable = true ∧ PyData.strOk d.py.shown = true ∧ d.py.shown.length ≤ B
theorem txtAll {B : Nat} : ∀ xs : List D, (∀ x ∈ xs, Txt B x) → PyData.showableAll (pys xs) = true ∧ (PyData.shownAll (pys xs)).length = xs.length ∧ ∀ t ∈ PyData.shownAll (pys xs), PyData.strOk t = true ∧ t.length ≤ B
  | [], _ => ⟨rfl, rfl, fun t h => by simp [pys, PyData.shownAll] at h⟩
  | x :: xs, h => by
    obtain ⟨a, b, c⟩ := txtAll xs fun y hy => h y (List.mem_cons_of_mem _ hy)
    obtain ⟨d, e, f⟩ := h x List.mem_cons_self
    refine ⟨by simp [pys, PyData.showableAll, a, d], by simp [pys, PyData.shownAll, b], fun t ht => ?_⟩
    simp only [pys, PyData.shownAll, List.mem_cons] at ht
    rcases ht with rfl | ht
    · exact ⟨e, f⟩
    · exact c t ht
theorem txt_lst {B : Nat} {xs : List D} (h : ∀ x ∈ xs, Txt B x) : Txt ((B + 2) * xs.length + 2) (.lst xs) := by
  obtain ⟨a, b, c⟩ := txtAll xs h
  have := listText_ok c
  rw [b] at this
  exact ⟨by simpa [D.py, PyData.showable] using a, by simpa only [D.py, PyData.shown] using this.1, by simpa only [D.py, PyData.shown] using this.2⟩
theorem txt_tup {B : Nat} {xs : List D} (h : ∀ x ∈ xs, Txt B x) : Txt ((B + 2) * xs.length + 3) (.tup xs) := by
  obtain ⟨a, b, c⟩ := txtAll xs h
  have := tupleText_ok c
  rw [b] at this
  exact ⟨by simpa [D.py, PyData.showable] using a, by simpa only [D.py, PyData.shown] using this.1, by simpa only [D.py, PyData.shown] using this.2⟩
theorem repr_txt {B : Nat} {d : D} (h : Txt B d) (hf : d.fit = true) (hB : B ≤ 1000000) : bltD .repr [d] = some (.str d.py.shown) := by
  have big : (1000000 : Nat) ≤ sizeLine := by decide
  obtain ⟨a, b, c⟩ := h
  simp only [bltD]
  rw [if_pos ⟨hf, a, by omega⟩]
end Z

set_option Elab.async false
set_option linter.all false
set_option maxRecDepth 100000
set_option maxHeartbeats 1000000
namespace Z
open PySem PySem.Spec PyProof.Rows L2
theorem fits_map {α : Type} (xs : List α) (f : α → D) (h : ∀ x ∈ xs, (f x).plain = true ∧ (f x).dep ≤ 59) : fits (xs.map f) = true := by
  have h1 : plains (xs.map f) = true := by
    induction xs with
    | nil => rfl
    | cons x xs ih =>
      rw [List.map_cons, plains, (h x List.mem_cons_self).1, ih fun y hy => h y (List.mem_cons_of_mem _ hy)]; rfl
  have h2 : PyData.depthAll (pys (xs.map f)) ≤ 59 := by
    clear h1
    induction xs with
    | nil => simp [pys, PyData.depthAll]
    | cons x xs ih =>
      have a := (h x List.mem_cons_self).2
      have b := ih fun y hy => h y (List.mem_cons_of_mem _ hy)
      unfold D.dep at a
      simp only [List.map_cons, pys, PyData.depthAll]
      omega
  simp only [fits, D.fit, D.plain, h1, D.dep, D.py, PyData.depth, Bool.true_and, decide_eq_true_eq]
  omega
theorem okAll_map {α : Type} (xs : List α) (f : α → D) (h : ∀ x ∈ xs, (f x).plain = true ∧ (f x).dep ≤ 59 ∧ (f x).isNon = false) (hl : ∀ x ∈ xs, ∀ y ∈ xs, likeD (f x) (f y) = true) : okAll (xs.map f) = true := by
  have h1 := fits_map xs f fun x hx => ⟨(h x hx).1, (h x hx).2.1⟩
  have h2 : ((xs.map f).all fun a => (xs.map f).all fun b => likeD a b) = true := by
    simp only [List.all_map, List.all_eq_true, Function.comp]
    exact fun x hx y hy => hl x hx y hy
  have h3 : ((xs.map f).all fun a => !a.isNon) = true := by
    simp only [List.all_map, List.all_eq_true, Function.comp]
    intro x hx
    rw [(h x hx).2.2]; rfl
  unfold okAll
  rw [h1, h2, h3]; rfl
theorem lst_eq {α : Type} [DecidableEq α] (f : α → D) (I : α → Prop) (h : ∀ x y, I x → I y → eqD (f x) (f y) = decide (x = y)) : ∀ xs ys : List α, (∀ x ∈ xs, I x) → (∀ y ∈ ys, I y) → PyData.eqvAll (pys (xs.map f)) (pys (ys.map f)) = decide (xs = ys)
  | [], [], _, _ => by simp [eqA_nil]
  | [], y :: ys, _, _ => by simp [eqA_r]
  | x :: xs, [], _, _ => by simp [eqA_l]
  | x :: xs, y :: ys, hx, hy => by
    rw [List.map_cons, List.map_cons, eqA_cons, h x y (hx x List.mem_cons_self) (hy y List.mem_cons_self), lst_eq f I h xs ys (fun z hz => hx z (List.mem_cons_of_mem _ hz)) fun z hz => hy z (List.mem_cons_of_mem _ hz)]
    rw [Bool.eq_iff_iff]; simp
/-- == and != of lists of spans, of strings -/
theorem cmpL {α : Type} [DecidableEq α] {f : α → D} {I : α → Prop} (h : ∀ x y, I x → I y → eqD (f x) (f y) = decide (x = y)) (hf : ∀ x, (f x).plain = true ∧ (f x).dep ≤ 59) {xs ys : List α} (hx : ∀ x ∈ xs, I x) (hy : ∀ y ∈ ys, I y) :
    cmpD .Eq (.lst (xs.map f)) (.lst (ys.map f)) = some (decide (xs = ys)) ∧ cmpD .NotEq (.lst (xs.map f)) (.lst (ys.map f)) = some (!decide (xs = ys)) := by
  have a : (D.lst (xs.map f)).fit = true := fits_map xs f fun x _ => hf x
  have b : (D.lst (ys.map f)).fit = true := fits_map ys f fun x _ => hf x
  simp only [cmpD, okEq, a, b, Bool.and_self, if_true, eqD_lst, lst_eq f I h xs ys hx hy, and_self]
def leS (a b : Str) : Bool := !decide (b.cps.toList < a.cps.toList)
def ltS (a b : Str) : Bool := decide (a.cps.toList < b.cps.toList)
theorem le_ss (a b : Str) (ha : PyData.strOk a = true) (hb : PyData.strOk b = true) : cmpD .LtE (.str a) (.str b) = some (leS a b) := by simp [cmpD, okLt, fit_str, ha, hb, like_str, D.isNon, ltD_str, leS]
theorem lt_ss (a b : Str) (ha : PyData.strOk a = true) (hb : PyData.strOk b = true) : cmpD .Lt (.str a) (.str b) = some (ltS a b) := by simp [cmpD, okLt, fit_str, ha, hb, like_str, D.isNon, ltD_str, ltS]
theorem decLen {α : Type} (xs : List α) (p : α → Bool) : decide (0 < ((xs.filter p).length : Int)) = xs.any p := by
  rw [Bool.eq_iff_iff]
  simp [List.length_pos_iff, List.filter_eq_nil_iff]
theorem cat (a b c : Str) (h : a ++ b = c) (hl : a.length + b.length ≤ 100) : binD .Add (.str a) (.str b) = some (.str c) := by
  have h1 : (100 : Nat) ≤ sizeLine := by decide
  simp only [binD]; rw [if_pos (by omega), h]
theorem eq_bb (a b : Bool) : cmpD .Eq (.bl a) (.bl b) = some (a == b) := by simp [cmpD, okEq, fit_bl, eqD_bl]
theorem ne_bb (a b : Bool) : cmpD .NotEq (.bl a) (.bl b) = some (a != b) := by simp [cmpD, okEq, fit_bl, eqD_bl, bne]
mutual
theorem eqD_refl : ∀ d : D, d.plain = true → eqD d d = true
  | .non, _ => eqD_non
  | .bl b, _ => by rw [eqD_bl]; simp
  | .int i, _ => by rw [eqD_int]; simp
  | .str x, _ => by rw [eqD_str]; simp
  | .lst xs, h => by rw [eqD_lst]; exact eqA_refl xs (by simpa [D.plain] using h)
  | .tup xs, h => by rw [eqD_tup]; exact eqA_refl xs (by simpa [D.plain] using h)
  | .dK _, h => by simp [D.plain] at h
  | .dT _, h => by simp [D.plain] at h
  | .ref _, h => by simp [D.plain] at h
  | .ctup xs, h => (show eqD (.ctup xs) (.ctup xs) = _ by simp only [eqD, D.py, PyData.eqv]).trans (eqA_refl xs (by simpa [D.plain] using h))
theorem eqA_refl : ∀ xs : List D, plains xs = true → PyData.eqvAll (pys xs) (pys xs) = true
  | [], _ => eqA_nil
  | x :: xs, h => by
    simp only [plains, Bool.and_eq_true] at h
    rw [eqA_cons, eqD_refl x h.1, eqA_refl xs h.2]; rfl
end
theorem ne_self {d : D} (h : d.fit = true) : cmpD .NotEq d d = some false := by
  simp [cmpD, okEq, h, eqD_refl d (fit_plain h)]
theorem eq_self {d : D} (h : d.fit = true) : cmpD .Eq d d = some true := by
  simp [cmpD, okEq, h, eqD_refl d (fit_plain h)]
theorem okAll_ss (a b : Str) (ha : PyData.strOk a = true) (hb : PyData.strOk b = true) : okAll [.str a, .str b] = true :=
  okAll_map [a, b] D.str (fun x hx => by
    simp at hx
    rcases hx with rfl | rfl
    · exact ⟨ha, by simp [D.dep, D.py, PyData.depth], rfl⟩
    · exact ⟨hb, by simp [D.dep, D.py, PyData.depth], rfl⟩) fun x _ y _ => like_str x y
theorem ltD_ss (a b : Str) : ltD (.str a) (.str b) = ltS a b := ltD_str a b
def mxS (a b : Str) : Str := if ltS a b then b else a
def mnS (a b : Str) : Str := if ltS b a then b else a
theorem max_ss (a b : Str) (ha : PyData.strOk a = true) (hb : PyData.strOk b = true) : bltD .max [.str a, .str b] = some (.str (mxS a b)) := by
  have e : bltD .max [.str a, .str b] = if okAll [.str a, .str b] then some (maxD (.str a) [.str b]) else none := rfl
  rw [e, if_pos (okAll_ss a b ha hb)]
  simp only [maxD, List.foldl_cons, List.foldl_nil, ltD_ss, mxS]
  by_cases c : ltS a b = true
  · rw [if_pos c, if_pos c]
  · rw [if_neg c, if_neg c]
theorem min_ss (a b : Str) (ha : PyData.strOk a = true) (hb : PyData.strOk b = true) : bltD .min [.str a, .str b] = some (.str (mnS a b)) := by
  have e : bltD .min [.str a, .str b] = if okAll [.str a, .str b] then some (minD (.str a) [.str b]) else none := rfl
  rw [e, if_pos (okAll_ss a b ha hb)]
  simp only [minD, List.foldl_cons, List.foldl_nil, ltD_ss, mnS]
  by_cases c : ltS b a = true
  · rw [if_pos c, if_pos c]
  · rw [if_neg c, if_neg c]
theorem mxS_ok {a b : Str} (ha : PyData.strOk a = true) (hb : PyData.strOk b = true) : PyData.strOk (mxS a b) = true := by unfold mxS; split <;> assumption
theorem mnS_ok {a b : Str} (ha : PyData.strOk a = true) (hb : PyData.strOk b = true) : PyData.strOk (mnS a b) = true := by unfold mnS; split <;> assumption
/-- no own container in the slot -/
def nOwn : Slot → Bool
  | .own _ => false
  | _ => true
theorem noOwn_all {ρ : Env'} {is : List Nat} (h : ∀ i ∈ is, ∀ s, ρ[i]? = some s → nOwn s = true) : noOwn ρ is = true := by
  unfold noOwn
  rw [List.all_eq_true]
  intro i hi
  have := h i hi
  split
  · rename_i d hd
    exact absurd (this _ hd) (by simp [nOwn])
  · rfl
theorem le_st (a b c d : Int) : cmpD .LtE (.tup [.int a, .int b]) (.tup [.int c, .int d]) = some (!decide (c < a ∨ (c = a ∧ d < b))) := by
  simp [cmpD, okLt, fit_st, like_st, D.isNon, stlt]
theorem lt_st (a b c d : Int) : cmpD .Lt (.tup [.int a, .int b]) (.tup [.int c, .int d]) = some (decide (a < c ∨ (a = c ∧ b < d))) := by
  simp [cmpD, okLt, fit_st, like_st, D.isNon, stlt]
/-- one of a list, drawn -/
theorem atI_in {α : Type} {f : α → D} {xs : List α} {v : Int} (h : 0 ≤ v ∧ v < (xs.length : Int)) : ∃ x ∈ xs, atI (xs.map f) v = some (f x) := by
  obtain ⟨i, rfl⟩ := Int.eq_ofNat_of_zero_le h.1
  have hl : i < xs.length := by omega
  refine ⟨xs[i], List.getElem_mem hl, ?_⟩
  rw [Z.atI_nat (by simpa using hl)]
  simp [hl]
end Z

set_option Elab.async false
set_option linter.all false
set_option maxRecDepth 100000
set_option maxHeartbeats 1000000
namespace Z
open PySem PySem.Spec PyProof.Rows L2
@[simp high] theorem x_blt1 {G : Fns} {b : Bi} {e : Ex} {ρ : Env'} {S : Store} : evE G (.blt b (.cons e .nil)) ρ S = bnd (hOf e ρ S (evE G e ρ S)) (k := ⟨fun x => bnd (cont ρ x.2 x.1) (k := ⟨fun u => mp (bltD b [u]) (k := ⟨fun d => (d, x.2)⟩)⟩)⟩) := by
  rw [evE, evH]
  cases hOf e ρ S (evE G e ρ S) with
  | none => rfl
  | some x =>
    simp only [Option.bind_some, Option.map_some, bnd_some, evH]
    cases h : cont ρ x.2 x.1 with
    | none => simp [h, bnd]
    | some u => simp [h, bnd, mp]
@[simp high] theorem x_blt2 {G : Fns} {b : Bi} {e e' : Ex} {ρ : Env'} {S : Store} : evE G (.blt b (.cons e (.cons e' .nil))) ρ S = bnd (hOf e ρ S (evE G e ρ S)) (k := ⟨fun x => bnd (hOf e' ρ x.2 (evE G e' ρ x.2)) (k := ⟨fun y => bnd (cont ρ y.2 x.1) (k := ⟨fun u => bnd (cont ρ y.2 y.1) (k := ⟨fun v => mp (bltD b [u, v]) (k := ⟨fun d => (d, y.2)⟩)⟩)⟩)⟩)⟩) := by
  rw [evE, evH]
  cases hOf e ρ S (evE G e ρ S) with
  | none => rfl
  | some x =>
    simp only [Option.bind_some, Option.map_some, bnd_some, evH]
    cases hOf e' ρ x.2 (evE G e' ρ x.2) with
    | none => rfl
    | some y =>
      simp only [Option.bind_some, Option.map_some, bnd_some]
      cases h : cont ρ y.2 x.1 with
      | none => simp [h, bnd]
      | some u =>
        cases h' : cont ρ y.2 y.1 with
        | none => simp [h, h', bnd]
        | some v => simp [h, h', bnd, mp]
theorem len1 : (1 : Nat) ≤ sizeLine := by decide
theorem range_split {n x : Nat} {p q : List Nat} (h : List.range n = p ++ x :: q) : x = p.length ∧ x < n := by
  have hl : p.length < n := by
    have := congrArg List.length h
    simp at this; omega
  have h1 : (List.range n)[p.length]? = some x := by rw [h]; simp
  rw [List.getElem?_range hl] at h1
  cases h1
  exact ⟨rfl, hl⟩
/-- a comprehension that changes nothing, over anything -/
theorem comp_h {α : Type} {G : Fns} {t : Tg} {it : Z.It} {c : Ar} {e : Ex} {ρ : Env'} {S S1 : Store} {w : Hd} {f : α → D} {xs : List α} {g : α → Option D} (no : noOwn ρ t.ix = true) (hlk : lockS ρ S1 w = some (S1, none)) (hi : evI G it ρ S = some (w, xs.map f, S1)) (hs : ∀ x ∈ xs, stepC G t c e ρ (f x) S1 = some (g x, S1)) (hl : xs.length ≤ 1000) :
    evE G (.comp t it c e) ρ S = some (.lst (xs.filterMap g), S1) := by
  have big : (1000 : Nat) ≤ sizeLine := by decide
  have key : compGo (fun S' => cont ρ S' w = cont ρ S1 w) (stepC G t c e ρ) (xs.map f) S1 = some (xs.filterMap g, S1) := by
    clear hi hl
    induction xs with
    | nil => rfl
    | cons x xs ih =>
      unfold compGo
      rw [List.map_cons]
      simp only
      rw [hs x List.mem_cons_self]
      simp only [Option.bind_some]
      rw [if_pos (by trivial), ih (fun y hy => hs y (List.mem_cons_of_mem _ hy))]
      cases hg : g x <;> simp [hg]
  rw [evE, if_pos no, hi]
  simp only [Option.bind_some, hlk]
  refine Eq.trans (congrArg (fun z => Option.bind z _) key) ?_
  simp only [Option.bind_some, freeS]
  rw [if_pos (by have := List.length_filterMap_le g xs; omega)]
theorem comp_maph {α : Type} {G : Fns} {t : Tg} {it : Z.It} {e : Ex} {ρ : Env'} {S S1 : Store} {w : Hd} (f : α → D) (xs : List α) (g : α → D) (no : noOwn ρ t.ix = true) (hlk : lockS ρ S1 w = some (S1, none)) (hi : evI G it ρ S = some (w, xs.map f, S1)) (hs : ∀ x ∈ xs, ∃ ρ', bindT t (f x) (wipeS ρ t.ix) = some ρ' ∧ evE G e ρ' S1 = some (g x, S1)) (hl : xs.length ≤ 1000) :
    evE G (.comp t it .nil e) ρ S = some (.lst (xs.map g), S1) := by
  have := comp_h (c := .nil) (e := e) (g := fun x => some (g x)) no hlk hi (fun x hx => by
    obtain ⟨ρ', e1, e2⟩ := hs x hx
    simp [stepC, e1, e2]) hl
  rw [this]
  simp
theorem comp_keeph {α : Type} {G : Fns} {i : Nat} {it : Z.It} {c : Ex} {ρ : Env'} {S S1 : Store} {w : Hd} (f : α → D) (xs : List α) (p : α → Bool) (no : noOwn ρ [i] = true) (hlk : lockS ρ S1 w = some (S1, none)) (hi : evI G it ρ S = some (w, xs.map f, S1)) (hi2 : i < ρ.length)
    (hs : ∀ x ∈ xs, evE G c ((ρ.set i .un).set i (.fz (f x))) S1 = some (.bl (p x), S1)) (hl : xs.length ≤ 1000) :
    evE G (.comp (.nm i) it (.cons c .nil) (.var i)) ρ S = some (.lst ((xs.filter p).map f), S1) := by
  have := comp_h (t := .nm i) (c := .cons c .nil) (e := .var i) (g := fun x => if p x then some (f x) else none) no hlk hi (fun x hx => by
    have h := hs x hx
    have h' : evE G c ((wipeS ρ (Tg.nm i).ix).set i (.fz (f x))) S1 = some (.bl (p x), S1) := h
    have l' : i < (wipeS ρ (Tg.nm i).ix).length := by show i < (ρ.set i .un).length; simpa using hi2
    have g1 : ((wipeS ρ (Tg.nm i).ix).set i (.fz (f x)))[i]? = some (.fz (f x)) := List.getElem?_set_self l'
    cases hp : p x with
    | true => rw [hp] at h'; simp [stepC, bindT, h', g1]
    | false => rw [hp] at h'; simp [stepC, bindT, h']) hl
  rw [this]
  congr 3
  clear hs hl hi this
  induction xs with
  | nil => rfl
  | cons x xs ih =>
    cases hp : p x with
    | true => rw [List.filterMap_cons_some (b := f x) (by simp [hp]), List.filter_cons_of_pos hp, List.map_cons, ih]
    | false => rw [List.filterMap_cons_none (by simp [hp]), List.filter_cons_of_neg (by simp [hp]), ih]
theorem lock_ref {ρ : Env'} {S : Store} {m : Nat} {xs : List D} (h : S[m]? = some (.con (.lst xs))) : lockS ρ S (.val (.ref m)) = some (S, none) := by simp [lockS, h]
theorem lock_slot {ρ : Env'} {S : Store} {m : Nat} {xs : List D} (h : ρ[m]? = some (.own (.lst xs))) : lockS ρ S (.slot m) = some (S, none) := by simp [lockS, h]
theorem no_cnt {G : Fns} {t : Tg} {it : Z.It} {b : Sms} {ρ ρ' : Env'} {S S' : Store} (e : evS G (.for_ t it b) ρ S = some (.cnt ρ' S')) : False := by
  rw [evS] at e
  obtain ⟨w, _, e⟩ := Option.bind_eq_some_iff.mp e
  split at e
  · obtain ⟨l, _, e⟩ := Option.bind_eq_some_iff.mp e
    obtain ⟨o, _, e⟩ := Option.bind_eq_some_iff.mp e
    cases o <;> simp [Out.after] at e
  · cases e
/-- how a for's walk ends -/
theorem for_two {G : Fns} {t : Tg} {it : Z.It} {b : Sms} {ρ : Env'} {S : Store} {P : Env' → Store → Prop} {R : D → Store → Prop} (h : ∃ o, evS G (.for_ t it b) ρ S = some o ∧ Ends (fun ρ S => P ρ S ∨ False) (fun _ _ => False) R o) : (∃ ρ' S', evS G (.for_ t it b) ρ S = some (.nxt ρ' S') ∧ P ρ' S') ∨ ∃ d S', evS G (.for_ t it b) ρ S = some (.ret d S') ∧ R d S' := by
  obtain ⟨o, e, h⟩ := h
  cases o with
  | nxt ρ' S' => exact .inl ⟨ρ', S', e, h.elim id False.elim⟩
  | cnt ρ' S' => exact (no_cnt e).elim
  | brk ρ' S' => exact h.elim
  | ret d S' => exact .inr ⟨d, S', e, h⟩
end Z

set_option Elab.async false
set_option linter.all false
set_option maxRecDepth 100000
set_option maxHeartbeats 1000000
namespace Z
open PySem PySem.Spec PyProof.Rows L2
/-! # draws of the second kind -/
def bDraw : Sms :=
      (.cons (.ife (.cmp .Lt (.var 1) (.cst (.int 1))) (.cons (.ret (.cst (.int 0)))
      .nil) .nil)
      (.cons (.asg (.nm 2) (.idx (.var 0) (.cst (.int 0))))
      (.cons (.while_ (.and (.cmp .Gt (.blt .len (.cons (.var 2) .nil)) (.cst (.int 0))) (.cmp .Eq (.idx (.var 2) (.cst (.int 0))) (.cst (.int 0)))) (.cons (.pop none (.var 2) (.cons (.cst (.int 0)) .nil))
      .nil))
      (.cons (.ife (.cmp .Gt (.blt .len (.cons (.var 2) .nil)) (.cst (.int 0))) (.cons (.asg (.nm 4) (.idx (.var 2) (.cst (.int 0))))
      (.cons (.seti (.var 2) (.cst (.int 0)) (.bin .FloorDiv (.var 4) (.var 1)))
      (.cons (.ret (.bin .Mod (.blt .int (.cons (.var 4) .nil)) (.var 1)))
      .nil))) .nil)
      (.cons (.asg (.nm 3) (.bin .Mod (.blt .int (.cons (.bin .Add (.bin .Mult (.idx (.var 0) (.cst (.int 1))) (.cst (.int 48271))) (.cst (.int 12345))) .nil)) (.cst (.int 2147483647))))
      (.cons (.seti (.var 0) (.cst (.int 1)) (.var 3))
      (.cons (.ret (.bin .Mod (.blt .int (.cons (.bin .FloorDiv (.var 3) (.cst (.int 64))) .nil)) (.var 1)))
      .nil)))))))
def bState2 : Sms :=
      (.cons (.asg (.nm 1) (.cst (.int 7)))
      (.cons (.for_ (.nm 2) (.seq (.var 0)) (.cons (.asg (.nm 1) (.bin .Mod (.blt .int (.cons (.bin .Add (.bin .Mult (.var 1) (.cst (.int 31))) (.var 2)) .nil)) (.cst (.int 1000003))))
      .nil))
      (.cons (.ret (.mref (.list (.cons (.mref (.comp (.nm 2) (.seq (.var 0)) .nil (.blt .abs (.cons (.var 2) .nil)))) (.cons (.bin .Add (.var 1) (.cst (.int 1))) .nil)))))
      .nil)))

@[simp] theorem int_i {i : Int} : bltD .int [.int i] = some (.int i) := rfl
@[simp] theorem abs_i {i : Int} : bltD .abs [.int i] = some (.int (if i < 0 then -i else i)) := rfl
theorem mul_ii {i j : Int} (h : CMul i j) : binD .Mult (.int i) (.int j) = some (.int (i * j)) := by simp only [binD]; rw [if_pos h]
theorem div_ii {i j : Int} (h : CDiv i j) : binD .FloorDiv (.int i) (.int j) = some (.int (i / j)) := by simp only [binD]; rw [if_pos h]
theorem mod_ii {i j : Int} (h : 0 < j) : binD .Mod (.int i) (.int j) = some (.int (i % j)) := by simp only [binD]; rw [if_pos h]
structure Rnd2 (S : Store) (st c : Nat) (seed : Int) (cs : List Int) : Prop where
  at_ : S[st]? = some (.con (.lst [.ref c, .int seed]))
  row : S[c]? = some (.con (.lst (cs.map .int)))
  ne : st ≠ c
  len : cs.length ≤ 1000
  nn : ∀ x ∈ cs, 0 ≤ x
/-- what a draw may do -/
def Went2 (S : Store) (st c : Nat) (S' : Store) : Prop := (∃ seed cs, Rnd2 S' st c seed cs) ∧ S'.length = S.length ∧ ∀ k, k ≠ st → k ≠ c → S'[k]? = S[k]?
theorem Went2.trans {S S1 S2 : Store} {st c : Nat} (a : Went2 S st c S1) (b : Went2 S1 st c S2) : Went2 S st c S2 := ⟨b.1, b.2.1.trans a.2.1, fun k h1 h2 => (b.2.2 k h1 h2).trans (a.2.2 k h1 h2)⟩
theorem seqIndex0 {n : Nat} : seqIndex? 0 (n + 1) = some 0 := by
  unfold seqIndex?
  simp
  try omega
theorem len_pos {n : Nat} : (0 : Int) < ((n + 1 : Nat) : Int) := by omega
def drC : Ex := (.and (.cmp .Gt (.blt .len (.cons (.var 2) .nil)) (.cst (.int 0))) (.cmp .Eq (.idx (.var 2) (.cst (.int 0))) (.cst (.int 0))))
def drB : Sms := (.cons (.pop none (.var 2) (.cons (.cst (.int 0)) .nil)) .nil)
theorem set_set {S : Store} {c : Nat} {x y : Cell} : (S.set c x).set c y = S.set c y := by simp
theorem set_id {S : Store} {c : Nat} {x : Cell} (h : S[c]? = some x) : S.set c x = S := by
  obtain ⟨hl, he⟩ := List.getElem?_eq_some_iff.mp h
  rw [← he]; simp
theorem drop_zeros (G : Fns) {st c : Nat} {m : Int} {x3 x4 : Slot} : ∀ (cs : List Int) (n : Nat) (S : Store), S[c]? = some (.con (.lst (cs.map .int))) → cs.length < n →
    whGo (fun ρ' S' => (evE G drC ρ' S').bind fun x => (blOf x.1).map fun k => (k, x.2)) (fun ρ' S' => evSs G drB ρ' S') n [.fz (.ref st), .fz (.int m), .fz (.ref c), x3, x4] S = some (.nxt [.fz (.ref st), .fz (.int m), .fz (.ref c), x3, x4] (S.set c (.con (.lst ((cs.dropWhile (· = 0)).map .int)))))
  | [], n + 1, S, h, _ => by
    have e : evE G drC [.fz (.ref st), .fz (.int m), .fz (.ref c), x3, x4] S = some (.bl false, S) := by
      have h' : S[c]? = some (.con (.lst [])) := h
      simp -implicitDefEqProofs [drC, hOf, h', Cst.d, gt_ii]
    unfold whGo
    simp only [e, Option.bind_some, blOf_bl, Option.map_some, Bool.false_eq_true, if_false]
    rw [List.dropWhile_nil, set_id h]
  | x :: cs, n + 1, S, h, hl => by
    by_cases hx : x = 0
    · subst hx
      have h' : S[c]? = some (.con (.lst (.int 0 :: cs.map .int))) := h
      have p0 : (0 : Int) < (cs.length : Int) + 1 := by omega
      have e : evE G drC [.fz (.ref st), .fz (.int m), .fz (.ref c), x3, x4] S = some (.bl true, S) := by
        simp -implicitDefEqProofs [drC, hOf, h', Cst.d, gt_ii, Z.atI0, eq_ii, p0]
      have s0 : smallI 0 = true := by decide +kernel
      have e2 : evSs G drB [.fz (.ref st), .fz (.int m), .fz (.ref c), x3, x4] S = some (.nxt [.fz (.ref st), .fz (.int m), .fz (.ref c), x3, x4] (S.set c (.con (.lst (cs.map .int))))) := by
        simp -implicitDefEqProofs [drB, hOf, h', Cst.d, popD, s0, seqIndex0, putC, setC, isLst, isDct]
      have hc : (S.set c (.con (.lst (cs.map .int))))[c]? = some (.con (.lst (cs.map .int))) := List.getElem?_set_self (List.getElem?_eq_some_iff.mp h).1
      unfold whGo
      simp only [e, Option.bind_some, blOf_bl, Option.map_some, if_true, e2]
      rw [drop_zeros G cs n _ hc (by simp at hl; omega), set_set]
      simp [List.dropWhile]
    · have h' : S[c]? = some (.con (.lst (.int x :: cs.map .int))) := h
      have p0 : (0 : Int) < (cs.length : Int) + 1 := by omega
      have e : evE G drC [.fz (.ref st), .fz (.int m), .fz (.ref c), x3, x4] S = some (.bl false, S) := by
        simp -implicitDefEqProofs [drC, hOf, h', Cst.d, gt_ii, Z.atI0, eq_ii, p0, hx]
      unfold whGo
      simp only [e, Option.bind_some, blOf_bl, Option.map_some, Bool.false_eq_true, if_false]
      have : (x :: cs).dropWhile (· = 0) = x :: cs := by simp [List.dropWhile, hx]
      rw [this, set_id h]
theorem drop_mem {cs : List Int} : ∀ x ∈ cs.dropWhile (· = 0), x ∈ cs := fun x h => (List.dropWhile_sublist _).subset h
theorem drop_len (cs : List Int) : (cs.dropWhile (· = 0)).length ≤ cs.length := (List.dropWhile_sublist _).length_le
theorem draw1 (G : Fns) {S : Store} {st c : Nat} {seed : Int} {cs : List Int} (R : Rnd2 S st c seed cs) (most : Int) (hm2 : most < 1073741824) :
    ∃ v S', evSs G bDraw [.fz (.ref st), .fz (.int most), .un, .un, .un] S = some (.ret (.int v) S') ∧ (0 < most → 0 ≤ v ∧ v < most) ∧ Went2 S st c S' := by
  have R' := R
  obtain ⟨h1, h2, h3, h4, h5⟩ := R
  by_cases hm : 0 < most
  case neg =>
    have hlt : most < 1 := by omega
    refine ⟨0, S, ?_, fun h => absurd h hm, ⟨seed, cs, R'⟩, rfl, fun _ _ _ => rfl⟩
    simp -implicitDefEqProofs [bDraw, Cst.d, hOf, lt_ii, hlt]
  have hlt : ¬ most < 1 := by omega
  have hdiv : ∀ (x : Int), CDiv x most := fun x => ⟨hm, hm2⟩
  have hst := (List.getElem?_eq_some_iff.mp h1).1
  have hcl := (List.getElem?_eq_some_iff.mp h2).1
  have ew : evS G (.while_ drC drB) [.fz (.ref st), .fz (.int most), .fz (.ref c), .un, .un] S = some (.nxt [.fz (.ref st), .fz (.int most), .fz (.ref c), .un, .un] (S.set c (.con (.lst ((cs.dropWhile (· = 0)).map .int))))) := by
    rw [x_evS_while_]
    exact drop_zeros G cs whMost S h2 (by have : (1000 : Nat) < whMost := by decide
                                          omega)
  have e0 : evS G (.ife (.cmp .Lt (.var 1) (.cst (.int 1))) (.cons (.ret (.cst (.int 0))) .nil) .nil) [.fz (.ref st), .fz (.int most), .un, .un, .un] S = some (.nxt [.fz (.ref st), .fz (.int most), .un, .un, .un] S) := by
    simp -implicitDefEqProofs [Cst.d, hOf, lt_ii, hlt]
  have e1 : evS G (.asg (.nm 2) (.idx (.var 0) (.cst (.int 0)))) [.fz (.ref st), .fz (.int most), .un, .un, .un] S = some (.nxt [.fz (.ref st), .fz (.int most), .fz (.ref c), .un, .un] S) := by
    simp -implicitDefEqProofs [Cst.d, hOf, h1, Z.atI0, bindT]
  unfold bDraw
  rw [seq1 e0, seq1 e1]
  have ew' : evS G (.while_ (.and (.cmp .Gt (.blt .len (.cons (.var 2) .nil)) (.cst (.int 0))) (.cmp .Eq (.idx (.var 2) (.cst (.int 0))) (.cst (.int 0)))) (.cons (.pop none (.var 2) (.cons (.cst (.int 0)) .nil)) .nil)) [.fz (.ref st), .fz (.int most), .fz (.ref c), .un, .un] S = _ := ew
  rw [seq1 ew']
  have hdm := fun x => @drop_mem cs x
  have hdl := drop_len cs
  generalize cs.dropWhile (· = 0) = ds at *
  have g1 : (S.set c (.con (.lst (ds.map .int))))[st]? = some (.con (.lst [.ref c, .int seed])) := by rw [List.getElem?_set_ne h3.symm]; exact h1
  have g2 : (S.set c (.con (.lst (ds.map .int))))[c]? = some (.con (.lst (ds.map .int))) := List.getElem?_set_self hcl
  have gl : (S.set c (.con (.lst (ds.map .int)))).length = S.length := by simp
  have gk : ∀ k, k ≠ st → k ≠ c → (S.set c (.con (.lst (ds.map .int))))[k]? = S[k]? := fun k _ hk => List.getElem?_set_ne hk.symm
  generalize S.set c (.con (.lst (ds.map .int))) = S1 at *
  cases ds with
  | nil =>
    have g2' : S1[c]? = some (.con (.lst [])) := g2
    have hm1 : CMul seed 48271 := .inr ⟨by decide, by decide⟩
    have hd64 : ∀ a : Int, CDiv a 64 := fun a => ⟨by decide, by decide⟩
    have ix1 : ixN 2 1 = some 1 := by decide
    refine ⟨(seed * 48271 + 12345) % 2147483647 / 64 % most, S1.set st (.con (.lst [.ref c, .int ((seed * 48271 + 12345) % 2147483647)])), ?_, fun _ => ⟨Int.emod_nonneg _ (by omega), Int.emod_lt_of_pos _ hm⟩, ⟨_, [], ⟨List.getElem?_set_self (by omega), by rw [List.getElem?_set_ne h3]; exact g2, h3, by decide, fun x h => absurd h (by simp)⟩⟩, by simp [gl], fun k hk1 hk2 => by rw [List.getElem?_set_ne hk1.symm]; exact gk k hk1 hk2⟩
    simp -implicitDefEqProofs [hOf, g1, g2', Cst.d, gt_ii, Z.atI1, mul_ii, div_ii, mod_ii, hm1, hd64, hdiv, bindT, setItem', ix1, putC, setC, hm]
  | cons v ds =>
    have g2' : S1[c]? = some (.con (.lst (.int v :: ds.map .int))) := g2
    have p0 : (0 : Int) < (ds.length : Int) + 1 := by omega
    have hv : 0 ≤ v := h5 v (hdm v List.mem_cons_self)
    have ix0 : ixN (ds.length + 1) 0 = some 0 := Z.ixN_nat (j := 0) (by omega)
    refine ⟨v % most, S1.set c (.con (.lst ((v / most :: ds).map .int))), ?_, fun _ => ⟨Int.emod_nonneg _ (by omega), Int.emod_lt_of_pos _ hm⟩, ⟨seed, v / most :: ds, ⟨by rw [List.getElem?_set_ne h3.symm]; exact g1, List.getElem?_set_self (by omega), h3, by simp at hdl ⊢; omega, fun x h => ?_⟩⟩, by simp [gl], fun k hk1 hk2 => by rw [List.getElem?_set_ne hk2.symm]; exact gk k hk1 hk2⟩
    · simp -implicitDefEqProofs [hOf, g2', Cst.d, gt_ii, Z.atI0, div_ii, mod_ii, hdiv, bindT, setItem', ix0, putC, setC, hm, p0]
    · rcases List.mem_cons.mp h with rfl | h
      · exact Int.ediv_nonneg hv (by omega)
      · exact h5 x (hdm x (List.mem_cons_of_mem _ h))
theorem draw_ok {T : Prog} (at_draw : T.defs.lookup (("_law_draw", none) : Str × Option Str) = some (⟨2, 5, bDraw⟩ : Fd)) {n : Nat} {S : Store} {st c : Nat} {seed : Int} {cs : List Int} (R : Rnd2 S st c seed cs) (most : Int) (h : most < 1073741824) : ∃ v S', runF T (n + 1) ("_law_draw", none) [.ref st, .int most] S = some (.int v, S') ∧ (0 < most → 0 ≤ v ∧ v < most) ∧ Went2 S st c S' := by
  obtain ⟨v, S', e, d⟩ := draw1 (run T n) R most h
  refine ⟨v, S', ?_, d⟩
  rw [run_def at_draw _ _ rfl]
  show (evSs (run T n) bDraw [.fz (.ref st), .fz (.int most), .un, .un, .un] S).bind _ = _
  rw [e]; rfl
/-- a for over what does not change -/
theorem for_w {α : Type} {G : Fns} {t : Tg} {it : Z.It} {b : Sms} {ρ : Env'} {S S1 : Store} {w : Hd} {u : D} (f : α → D) (xs : List α) (P : List α → Env' → Store → Prop) (hw : noSlot w = true) (hi : evI G it ρ S = some (w, xs.map f, S1)) (hl : lockS ρ S1 w = some (S1, none)) (hc : cont ρ S1 w = some u) (hP : ∀ p ρ S, P p ρ S → cont ρ S w = some u) (h0 : P [] ρ S1)
    (hf : ∀ p x q, xs = p ++ x :: q → ∀ ρ S, P p ρ S → ∃ ρ2 ρ' S', bindT t (f x) ρ = some ρ2 ∧ evSs G b ρ2 S = some (.nxt ρ' S') ∧ P (p ++ [x]) ρ' S') : ∃ ρ' S', evS G (.for_ t it b) ρ S = some (.nxt ρ' S') ∧ P xs ρ' S' := by
  obtain ⟨o, e, h⟩ := forGo_gen (kp := fun S' ρ' => cont ρ' S' w = cont ρ S1 w) (f := fun d ρ' S' => (bindT t d ρ').bind fun ρ2 => evSs G b ρ2 S') (P := fun p ρ S => P (xs.take p.length) ρ S) (B := fun _ _ => False) (R := fun _ _ => False) (fun p ρ' S' h => by rw [hP _ _ _ h, hc]) (fun ρ' S' h => h.elim) (fun _ ρ' S' d S2 _ h => h.elim) (xs.map f) [] (fun p x q hq ρ S hp => by
    obtain ⟨y, e1, e2, e3⟩ := map_split hq
    obtain ⟨ρ2, ρ', S', a1, a2, a3⟩ := hf _ y _ e1 ρ S hp
    refine ⟨.nxt ρ' S', by rw [← e2, a1]; exact a2, ?_⟩
    show P (xs.take ([] ++ p ++ [x]).length) ρ' S'
    rw [List.nil_append, e3]; exact a3) ρ S1 h0
  have hev : evS G (.for_ t it b) ρ S = o.after none := by
    rw [evS, hi]
    simp only [Option.bind_some, hw, if_true, hl]
    rw [e]
    rfl
  rw [hev]
  cases o with
  | nxt ρ S => exact ⟨ρ, S, rfl, by simpa [Ends] using h⟩
  | cnt ρ S => exact ⟨ρ, S, rfl, by simpa [Ends] using h⟩
  | brk ρ S => exact h.elim
  | ret d S => exact h.elim
theorem lock_lck {ρ : Env'} {S : Store} {m : Nat} {u : D} (h : S[m]? = some (.lck u)) : lockS ρ S (.val (.ref m)) = some (S, none) := by simp [lockS, h]
theorem state2_ok {T : Prog} (at_state : T.defs.lookup (("_law_state", none) : Str × Option Str) = some (⟨1, 3, bState2⟩ : Fd)) {n : Nat} {S : Store} {ns : List Int} (h : S[0]? = some (.lck (.lst (ns.map .int)))) (hl : ns.length ≤ 63) :
    ∃ st c S' seed cs, runF T (n + 1) ("_law_state", none) [.ref 0] S = some (.ref st, S') ∧ Rnd2 S' st c seed cs ∧ S.length ≤ st ∧ S.length ≤ c ∧ ∀ k, k < S.length → S'[k]? = S[k]? := by
  rw [run_def at_state _ _ rfl]
  show ∃ st c S' seed cs, (evSs (Z.run T n) bState2 [.fz (.ref 0), .un, .un] S).bind outR = _ ∧ _
  have hc0 : ∀ ρ, cont ρ S (.val (.ref 0)) = some (.lst (ns.map .int)) := fun ρ => by simp [h]
  have hi : ∀ ρ : Env', ρ[0]? = some (.fz (.ref 0)) → evI (Z.run T n) (.seq (.var 0)) ρ S = some (.val (.ref 0), ns.map .int, S) := fun ρ h0 => by
    simp -implicitDefEqProofs [hOf, h0, h]
  have e0 : evS (Z.run T n) (.asg (.nm 1) (.cst (.int 7))) [.fz (.ref 0), .un, .un] S = some (.nxt [.fz (.ref 0), .fz (.int 7), .un] S) := by
    simp -implicitDefEqProofs [Cst.d, bindT]
  obtain ⟨ρ', S', e1, rfl, seed, x2, n2, rfl⟩ := for_w (G := Z.run T n) (t := .nm 2) (it := .seq (.var 0)) (b := (.cons (.asg (.nm 1) (.bin .Mod (.blt .int (.cons (.bin .Add (.bin .Mult (.var 1) (.cst (.int 31))) (.var 2)) .nil)) (.cst (.int 1000003)))) .nil)) (ρ := [.fz (.ref 0), .fz (.int 7), .un]) D.int ns (fun _ ρ S' => S' = S ∧ ∃ (seed : Int) (x2 : Slot), nOwn x2 = true ∧ ρ = [.fz (.ref 0), .fz (.int seed), x2]) rfl (hi _ rfl) (lock_lck h) (hc0 _) (fun p ρ S' h => by rw [h.1]; exact hc0 ρ) ⟨rfl, 7, .un, rfl, rfl⟩
    (fun p x q hq ρ S' ⟨h1, seed, x2, _, h2⟩ => by
      subst h1 h2
      have hm1 : CMul seed 31 := .inr ⟨by decide, by decide⟩
      refine ⟨[.fz (.ref 0), .fz (.int seed), .fz (.int x)], [.fz (.ref 0), .fz (.int ((seed * 31 + x) % 1000003)), .fz (.int x)], S', rfl, ?_, rfl, _, _, rfl, rfl⟩
      simp -implicitDefEqProofs [hOf, Cst.d, mul_ii, mod_ii, hm1, bindT])
  have no1 : noOwn [.fz (.ref 0), .fz (.int seed), x2] [2] = true := by cases x2 <;> first | rfl | (simp [nOwn] at n2)
  have e2 := comp_maph (G := Z.run T n) (t := .nm 2) (it := .seq (.var 0)) (e := .blt .abs (.cons (.var 2) .nil)) (ρ := [.fz (.ref 0), .fz (.int seed), x2]) (S := S') (S1 := S') (w := .val (.ref 0)) D.int ns (fun i => D.int (if i < 0 then -i else i)) no1 (lock_lck h) (hi _ rfl)
    (fun x hx => ⟨[.fz (.ref 0), .fz (.int seed), .fz (.int x)], rfl, by simp -implicitDefEqProofs [hOf]⟩) (by omega)
  refine ⟨S'.length + 1, S'.length, S' ++ [.con (.lst ((ns.map fun i => if i < 0 then -i else i).map .int)), .con (.lst [.ref S'.length, .int (seed + 1)])], seed + 1, ns.map fun i => if i < 0 then -i else i, ?_, ⟨by rw [List.getElem?_append_right (by omega)]; simp, by rw [List.getElem?_append_right (Nat.le_refl _)]; simp, by omega, by rw [List.length_map]; omega, fun x hx => ?_⟩, by omega, by omega, fun k hk => by rw [List.getElem?_append_left hk]⟩
  · unfold bState2
    rw [seq1 e0, seq1 e1]
    have mm : (ns.map fun i => D.int (if i < 0 then -i else i)) = (ns.map fun i => if i < 0 then -i else i).map .int := by rw [List.map_map]; rfl
    rw [mm] at e2
    generalize (ns.map fun i => if i < 0 then -i else i).map D.int = L at *
    simp -implicitDefEqProofs [e2, newRef, hOf, Cst.d, len2, outR]
  · obtain ⟨i, _, rfl⟩ := List.mem_map.mp hx
    split <;> omega
end Z

set_option Elab.async false
set_option linter.all false
set_option maxRecDepth 100000
set_option maxHeartbeats 1000000
namespace Z
open PySem PySem.Spec PyProof.Rows L2
/-- a dict comprehension that changes nothing, over anything, no filter -/
theorem dcomp_maph {α : Type} {G : Fns} {t : Tg} {it : Z.It} {ek ev : Ex} {ρ : Env'} {S S1 : Store} {w : Hd} (f : α → D) (xs : List α) (gk gv : α → D) {es : List (Key × D)} (no : noOwn ρ t.ix = true) (hlk : lockS ρ S1 w = some (S1, none)) (hi : evI G it ρ S = some (w, xs.map f, S1))
    (hs : ∀ x ∈ xs, ∃ ρ', bindT t (f x) (wipeS ρ t.ix) = some ρ' ∧ evE G ek ρ' S1 = some (gk x, S1) ∧ evE G ev ρ' S1 = some (gv x, S1)) (hl : xs.length ≤ 1000) (hm : mkd (xs.map fun x => .tup [gk x, gv x]) [] = some es) :
    evE G (.dcomp t it .nil ek ev) ρ S = some (.dK es, S1) := by
  have big : (1000 : Nat) ≤ sizeLine := by decide
  have key : compGo (fun S' => cont ρ S' w = cont ρ S1 w) (fun d S' => (bindT t d (wipeS ρ t.ix)).bind fun ρ' => (evE G ek ρ' S').bind fun r => (evE G ev ρ' r.2).map fun q => (some (.tup [r.1, q.1]), q.2)) (xs.map f) S1 = some (xs.map fun x => .tup [gk x, gv x], S1) := by
    clear hi hl hm
    induction xs with
    | nil => rfl
    | cons x xs ih =>
      unfold compGo
      rw [List.map_cons]
      simp only
      obtain ⟨ρ', e1, e2, e3⟩ := hs x List.mem_cons_self
      simp only [e1, e2, e3, Option.bind_some, Option.map_some]
      rw [if_pos (by trivial), ih (fun y hy => hs y (List.mem_cons_of_mem _ hy))]
      simp
  rw [evE, if_pos no, hi]
  simp only [Option.bind_some, hlk]
  refine Eq.trans (congrArg (fun z => Option.bind z _) key) ?_
  simp only [Option.bind_some, freeS, List.length_map]
  rw [if_pos (by omega), hm]
  rfl
theorem in_ints (l : List Int) (x : Int) : cmpD .In (.int x) (.lst (l.map .int)) = some (decide (x ∈ l)) := by
  have h : fits (l.map D.int) = true := fits_map l D.int fun _ _ => ⟨by simp [D.plain], by simp [D.dep, D.py, PyData.depth]⟩
  have e : ((l.map D.int).any fun b => eqD b (.int x)) = decide (x ∈ l) := by
    rw [List.any_map, Bool.eq_iff_iff]
    simp [List.any_eq_true, Function.comp, eqD_int]
  simp only [cmpD, fit_int, h, Bool.and_self, if_true, e]
theorem ints_ne {xs ys : List Int} : cmpD .NotEq (.lst (xs.map .int)) (.lst (ys.map .int)) = some (!decide (xs = ys)) :=
  (cmpL (f := D.int) (I := fun _ => True) (fun x y _ _ => eqD_int x y) (fun x => ⟨by simp [D.plain], by simp [D.dep, D.py, PyData.depth]⟩) (fun _ _ => trivial) (fun _ _ => trivial)).2
theorem sortI_mem {l : List Int} {x : Int} : x ∈ sortI l ↔ x ∈ l := (List.mergeSort_perm _ _).mem_iff
theorem sortI_pw {l : List Int} (h : l.Nodup) : (sortI l).Pairwise (· < ·) := by
  have h1 : (sortI l).Pairwise (fun a b => decide (a ≤ b) = true) := List.pairwise_mergeSort (fun a b c h1 h2 => by simp at *; omega) (fun a b => by simp; omega) l
  have h2 : (sortI l).Nodup := (List.mergeSort_perm _ _).nodup_iff.mpr h
  exact h1.imp₂ (fun a b h1 h2 => by have := of_decide_eq_true h1; omega) h2
theorem sortI_len {l : List Int} : (sortI l).length = l.length := List.length_mergeSort _
end Z

set_option Elab.async false
set_option linter.all false
set_option maxRecDepth 100000
set_option maxHeartbeats 1000000
set_option exponentiation.threshold 4000
namespace Z
open PySem PySem.Spec PyProof.Rows L2
/-! # texts of small things: leaves bounded, nodes counted -/
def txI (i : Int) : Bool := decide (-1000000 ≤ i) && decide (i ≤ 1000000)
def txS (x : Str) : Bool := PyData.strOk (reprText x) && decide ((reprText x).length ≤ 1000)
def txK : Key → Bool
  | .inl i => txI i
  | .inr x => txS x
mutual
def D.lf : D → Bool
  | .non => true | .bl _ => true | .int i => txI i | .str x => txS x
  | .lst xs => lfs xs | .tup xs => lfs xs
  | .dK es => lfk es
  | .dT _ => false | .ref _ => false
  | .ctup xs => lfs xs
def lfs : List D → Bool
  | [] => true
  | x :: xs => x.lf && lfs xs
def lfp : Key × D → Bool
  | (k, d) => txK k && d.lf
def lfk : List (Key × D) → Bool
  | [] => true
  | x :: xs => lfp x && lfk xs
end
mutual
def D.nd : D → Nat
  | .lst xs => 1 + nds xs | .tup xs => 1 + nds xs
  | .dK es => 1 + ndk es
  | .non => 1 | .bl _ => 1 | .int _ => 1 | .str _ => 1
  | .dT _ => 1 | .ref _ => 1
  | .ctup xs => 1 + nds xs
def nds : List D → Nat
  | [] => 0
  | x :: xs => x.nd + nds xs
def ndp : Key × D → Nat
  | (_, d) => 1 + d.nd
def ndk : List (Key × D) → Nat
  | [] => 0
  | x :: xs => ndp x + ndk xs
end
mutual
def D.dp : D → Nat
  | .lst xs => 1 + dps xs | .tup xs => 1 + dps xs
  | .dK es => 1 + dpk es
  | .non => 0 | .bl _ => 0 | .int _ => 0 | .str _ => 0
  | .dT _ => 0 | .ref _ => 0
  | .ctup xs => 1 + dps xs
def dps : List D → Nat
  | [] => 0
  | x :: xs => max x.dp (dps xs)
def dpp : Key × D → Nat
  | (_, d) => d.dp
def dpk : List (Key × D) → Nat
  | [] => 0
  | x :: xs => max (dpp x) (dpk xs)
end
theorem nd_pos : ∀ d : D, 1 ≤ d.nd
  | .lst _ => by rw [D.nd]; omega
  | .tup _ => by rw [D.nd]; omega
  | .dK _ => by rw [D.nd]; omega
  | .non => by rw [D.nd]; omega
  | .bl _ => by rw [D.nd]; omega
  | .int _ => by rw [D.nd]; omega
  | .str _ => by rw [D.nd]; omega
  | .dT _ => by rw [D.nd]; omega
  | .ref _ => by rw [D.nd]; omega
  | .ctup _ => by rw [D.nd]; omega
/-- all texts of a list together -/
def tot : List Str → Nat
  | [] => 0
  | t :: ts => t.length + 2 + tot ts
def Tx (m : Nat) (x : PyData) : Prop := x.showable = true ∧ PyData.strOk x.shown = true ∧ x.shown.length + 2 ≤ 1010 * m
theorem join_tot : ∀ ts : List Str, (∀ t ∈ ts, PyData.strOk t = true) → PyData.strOk (Str.join ", " ts) = true ∧ (Str.join ", " ts).length ≤ tot ts
  | [], _ => ⟨by decide +kernel, by rw [show Str.join ", " ([] : List Str) = Str.empty from rfl]; exact Nat.zero_le _⟩
  | [t], h => by
    rw [show Str.join ", " [t] = t from rfl]
    exact ⟨h t List.mem_cons_self, by simp [tot]⟩
  | t :: u :: r, h => by
    obtain ⟨c, d⟩ := join_tot (u :: r) fun z hz => h z (List.mem_cons_of_mem _ hz)
    rw [show Str.join ", " (t :: u :: r) = t ++ ", " ++ Str.join ", " (u :: r) from rfl]
    refine ⟨by rw [strOk_app, strOk_app, h t List.mem_cons_self, c]; decide +kernel, ?_⟩
    rw [len_app, len_app]
    have e : (", " : Str).length = 2 := rfl
    rw [e]
    rw [show tot (t :: u :: r) = t.length + 2 + tot (u :: r) from rfl]
    omega
theorem listText_tot {ts : List Str} (h : ∀ t ∈ ts, PyData.strOk t = true) : PyData.strOk (listText ts) = true ∧ (listText ts).length ≤ tot ts + 2 := by
  obtain ⟨a, b⟩ := join_tot ts h
  rw [listText_eq_join]
  refine ⟨by rw [strOk_app, strOk_app, a]; decide +kernel, ?_⟩
  rw [len_app, len_app]
  have e : ("[" : Str).length = 1 := rfl
  have e2 : ("]" : Str).length = 1 := rfl
  rw [e, e2]; omega
theorem dictText_tot {ts : List Str} (h : ∀ t ∈ ts, PyData.strOk t = true) : PyData.strOk (dictText ts) = true ∧ (dictText ts).length ≤ tot ts + 2 := by
  obtain ⟨a, b⟩ := join_tot ts h
  unfold dictText
  refine ⟨by rw [strOk_app, strOk_app, a]; decide +kernel, ?_⟩
  rw [len_app, len_app]
  have e : ("{" : Str).length = 1 := rfl
  have e2 : (("}" : String) : Str).length = 1 := rfl
  rw [e, e2]; omega
theorem tupleText_tot {ts : List Str} (h : ∀ t ∈ ts, PyData.strOk t = true) : PyData.strOk (tupleText ts) = true ∧ (tupleText ts).length ≤ tot ts + 3 := by
  obtain ⟨a, b⟩ := join_tot ts h
  unfold tupleText
  by_cases c : (ts.length == 1) = true
  · rw [if_pos c]
    refine ⟨by rw [strOk_app, strOk_app, a]; decide +kernel, ?_⟩
    rw [len_app, len_app]
    have e : ("(" : Str).length = 1 := rfl
    have e2 : ((",)" : String) : Str).length = 2 := rfl
    rw [e, e2]; omega
  · rw [if_neg c]
    refine ⟨by rw [strOk_app, strOk_app, a]; decide +kernel, ?_⟩
    rw [len_app, len_app]
    have e : ("(" : Str).length = 1 := rfl
    have e2 : ((")" : String) : Str).length = 1 := rfl
    rw [e, e2]; omega
theorem tx_int {i : Int} (h : txI i = true) : Tx 1 (.int i) := by
  unfold txI at h
  simp only [Bool.and_eq_true, decide_eq_true_eq] at h
  obtain ⟨h1, h2⟩ := h
  have h3 : i.natAbs < 2 ^ 1920 := Nat.lt_of_lt_of_le (show i.natAbs < 2 ^ 20 by omega) (Nat.pow_le_pow_right (by decide) (by decide))
  refine ⟨?_, ?_, ?_⟩
  · simp only [PyData.showable, decide_eq_true_eq]
    by_cases h0 : i.natAbs = 0
    · rw [h0]; decide
    · exact (Nat.log2_lt h0).mpr h3
  · unfold PyData.strOk
    rw [← Array.all_toList, List.all_eq_true]
    intro c hc
    rw [decide_eq_true_eq]
    by_cases hk : c ≠ 45 ∧ (c < 48 ∨ 57 < c)
    · exact absurd hc (shown_int_free' hk i)
    · omega
  · have := PyData.shown_int_le2 (i := i) (by omega) (by omega)
    omega
theorem tx_str {x : Str} (h : txS x = true) : Tx 1 (.str x) := by
  unfold txS at h
  simp only [Bool.and_eq_true, decide_eq_true_eq] at h
  exact ⟨by simp [PyData.showable], by simpa [PyData.shown] using h.1, by simp only [PyData.shown]; omega⟩
theorem tx_key {k : Key} (h : txK k = true) : Tx 1 (keyP k) := by
  cases k with
  | inl i => exact tx_int h
  | inr x => exact tx_str h
mutual
theorem tx_of : ∀ d : D, d.lf = true → Tx d.nd d.pyr
  | .non, _ => by rw [D.pyr, D.nd]; exact ⟨by decide +kernel, by decide +kernel, by decide +kernel⟩
  | .bl b, _ => by rw [D.pyr, D.nd]; cases b <;> exact ⟨by decide +kernel, by decide +kernel, by decide +kernel⟩
  | .int i, h => by rw [D.pyr, D.nd]; rw [D.lf] at h; exact tx_int h
  | .str x, h => by rw [D.pyr, D.nd]; rw [D.lf] at h; exact tx_str h
  | .lst xs, h => by
    rw [D.lf] at h
    obtain ⟨a, b, c⟩ := txs_of xs h
    rw [D.pyr, D.nd]
    have := listText_tot b
    exact ⟨by simpa [PyData.showable] using a, by simpa only [PyData.shown] using this.1, by simp only [PyData.shown]; omega⟩
  | .tup xs, h => by
    rw [D.lf] at h
    obtain ⟨a, b, c⟩ := txs_of xs h
    rw [D.pyr, D.nd]
    have := tupleText_tot b
    exact ⟨by simpa [PyData.showable] using a, by simpa only [PyData.shown] using this.1, by simp only [PyData.shown]; omega⟩
  | .ctup xs, h => by
    rw [D.lf] at h
    obtain ⟨a, b, c⟩ := txs_of xs h
    rw [D.pyr, D.nd]
    have := tupleText_tot b
    exact ⟨by simpa [PyData.showable] using a, by simpa only [PyData.shown] using this.1, by simp only [PyData.shown]; omega⟩
  | .dK es, h => by
    rw [D.lf] at h
    obtain ⟨a, b, c⟩ := txk_of es h
    rw [D.pyr, D.nd]
    have := dictText_tot b
    exact ⟨by simpa [PyData.showable] using a, by simpa only [PyData.shown] using this.1, by simp only [PyData.shown]; omega⟩
  | .dT _, h => by rw [D.lf] at h; cases h
  | .ref _, h => by rw [D.lf] at h; cases h
theorem txs_of : ∀ xs : List D, lfs xs = true → PyData.showableAll (pyrs xs) = true ∧ (∀ t ∈ PyData.shownAll (pyrs xs), PyData.strOk t = true) ∧ tot (PyData.shownAll (pyrs xs)) ≤ 1010 * nds xs
  | [], _ => ⟨by simp [pyrs, PyData.showableAll], fun t h => by simp [pyrs, PyData.shownAll] at h, by simp [pyrs, PyData.shownAll, tot]⟩
  | x :: xs, h => by
    rw [lfs, Bool.and_eq_true] at h
    obtain ⟨a, b, c⟩ := txs_of xs h.2
    obtain ⟨d, e, f⟩ := tx_of x h.1
    rw [pyrs, nds]
    refine ⟨by simp [PyData.showableAll, a, d], fun t ht => ?_, ?_⟩
    · simp only [PyData.shownAll, List.mem_cons] at ht
      rcases ht with rfl | ht
      · exact e
      · exact b t ht
    · rw [PyData.shownAll, tot]; omega
theorem txk_of : ∀ es : List (Key × D), lfk es = true → PyData.showableKv (pyrk es) = true ∧ (∀ t ∈ PyData.shownKv (pyrk es), PyData.strOk t = true) ∧ tot (PyData.shownKv (pyrk es)) ≤ 1010 * ndk es
  | [], _ => ⟨by simp [pyrk, PyData.showableKv], fun t h => by simp [pyrk, PyData.shownKv] at h, by simp [pyrk, PyData.shownKv, tot]⟩
  | (k, x) :: xs, h => by
    rw [lfk, lfp, Bool.and_eq_true, Bool.and_eq_true] at h
    obtain ⟨a, b, c⟩ := txk_of xs h.2
    obtain ⟨d, e, f⟩ := tx_of x h.1.2
    obtain ⟨d', e', f'⟩ := tx_key h.1.1
    rw [pyrk, pyrp, ndk, ndp]
    refine ⟨by simp [PyData.showableKv, a, d, d'], fun t ht => ?_, ?_⟩
    · simp only [PyData.shownKv, List.mem_cons] at ht
      rcases ht with rfl | ht
      · rw [strOk_app, strOk_app, e, e']; decide +kernel
      · exact b t ht
    · have e2 : ((": " : String) : Str).length = 2 := rfl
      rw [PyData.shownKv, tot, len_app, len_app, e2]; omega
end
mutual
theorem shw_of : ∀ d : D, d.lf = true → d.shw = true
  | .non, _ => by simp [D.shw]
  | .bl b, _ => by simp [D.shw]
  | .int i, h => by simp [D.shw]
  | .str x, h => by simp [D.shw]
  | .lst xs, h => by rw [D.lf] at h; rw [D.shw]; exact shws_of xs h
  | .tup xs, h => by rw [D.lf] at h; rw [D.shw]; exact shws_of xs h
  | .ctup xs, h => by rw [D.lf] at h; rw [D.shw]; exact shws_of xs h
  | .dK es, h => by rw [D.lf] at h; rw [D.shw]; exact shwk_of es h
  | .dT _, h => by rw [D.lf] at h; cases h
  | .ref _, h => by rw [D.lf] at h; cases h
theorem shws_of : ∀ xs : List D, lfs xs = true → shws xs = true
  | [], _ => by simp [shws]
  | x :: xs, h => by
    rw [lfs, Bool.and_eq_true] at h
    rw [shws, shw_of x h.1, shws_of xs h.2]; rfl
theorem shwk_of : ∀ es : List (Key × D), lfk es = true → shwk es = true
  | [], _ => by simp [shwk]
  | (k, x) :: xs, h => by
    rw [lfk, lfp, Bool.and_eq_true, Bool.and_eq_true] at h
    rw [shwk, shwp, shw_of x h.1.2, shwk_of xs h.2]; rfl
end
theorem dep_key (k : Key) : (keyP k).depth = 0 := by cases k <;> simp [keyP, PyData.depth]
mutual
theorem dep_of : ∀ d : D, d.pyr.depth = d.dp
  | .non => by simp [D.pyr, D.dp, PyData.depth]
  | .bl b => by simp [D.pyr, D.dp, PyData.depth]
  | .int i => by simp [D.pyr, D.dp, PyData.depth]
  | .str x => by simp [D.pyr, D.dp, PyData.depth]
  | .lst xs => by rw [D.pyr, D.dp, PyData.depth, deps_of xs]; omega
  | .tup xs => by rw [D.pyr, D.dp, PyData.depth, deps_of xs]; omega
  | .ctup xs => by rw [D.pyr, D.dp, PyData.depth, deps_of xs]; omega
  | .dK es => by rw [D.pyr, D.dp, PyData.depth, depk_of es]; omega
  | .dT _ => by simp [D.pyr, D.dp, PyData.depth]
  | .ref _ => by simp [D.pyr, D.dp, PyData.depth]
theorem deps_of : ∀ xs : List D, PyData.depthAll (pyrs xs) = dps xs
  | [] => by simp [pyrs, PyData.depthAll, dps]
  | x :: xs => by rw [pyrs, PyData.depthAll, dps, dep_of x, deps_of xs]
theorem depk_of : ∀ es : List (Key × D), PyData.depthKv (pyrk es) = dpk es
  | [] => by simp [pyrk, PyData.depthKv, dpk]
  | (k, x) :: xs => by rw [pyrk, pyrp, PyData.depthKv, dpk, dpp, dep_of x, depk_of xs, dep_key]; omega
end
mutual
theorem pyr_py : ∀ d : D, d.plain = true → d.pyr = d.py
  | .non, _ => by rw [D.pyr, D.py]
  | .bl b, _ => by rw [D.pyr, D.py]
  | .int i, _ => by rw [D.pyr, D.py]
  | .str x, _ => by rw [D.pyr, D.py]
  | .lst xs, h => by rw [D.plain] at h; rw [D.pyr, D.py, pyrs_py xs h]
  | .tup xs, h => by rw [D.plain] at h; rw [D.pyr, D.py, pyrs_py xs h]
  | .ctup xs, h => by rw [D.plain] at h; rw [D.pyr, D.py, pyrs_py xs h]
  | .dK es, h => by rw [D.plain] at h; cases h
  | .dT _, h => by rw [D.plain] at h; cases h
  | .ref _, h => by rw [D.plain] at h; cases h
theorem pyrs_py : ∀ xs : List D, plains xs = true → pyrs xs = pys xs
  | [], _ => by rw [pyrs, pys]
  | x :: xs, h => by
    rw [plains, Bool.and_eq_true] at h
    rw [pyrs, pys, pyr_py x h.1, pyrs_py xs h.2]
end
/-- repr of what is small: a good text -/
theorem repr_small {d : D} (hq : isSeqD d = true) (hl : d.lf = true) (hd : d.dp ≤ 60) (hn : d.nd ≤ 10000) : ∃ x : Str, bltD .repr [d] = some (.str x) ∧ PyData.strOk x = true := by
  have big : (10100000 : Nat) ≤ sizeLine := by decide
  obtain ⟨a, b, c⟩ := tx_of d hl
  simp only [bltD]
  split
  · rename_i h
    refine ⟨_, rfl, ?_⟩
    rw [← pyr_py d (fit_plain h.1)]; exact b
  · refine ⟨d.pyr.shown, ?_, b⟩
    unfold reprD' okShw
    rw [hq, shw_of d hl, dep_of d, a]
    rw [if_pos]
    simp only [Bool.and_eq_true, decide_eq_true_eq]
    exact ⟨trivial, trivial, hd, trivial, by omega⟩
theorem lfs_map {α : Type} (f : α → D) : ∀ xs : List α, (∀ x ∈ xs, (f x).lf = true) → lfs (xs.map f) = true
  | [], _ => by simp [lfs]
  | x :: xs, h => by
    rw [List.map_cons, lfs, h x List.mem_cons_self, lfs_map f xs fun y hy => h y (List.mem_cons_of_mem _ hy)]; rfl
theorem nds_map {α : Type} (f : α → D) {k : Nat} : ∀ xs : List α, (∀ x ∈ xs, (f x).nd ≤ k) → nds (xs.map f) ≤ xs.length * k
  | [], _ => by simp [nds]
  | x :: xs, h => by
    have h1 := h x List.mem_cons_self
    have h2 := nds_map f xs fun y hy => h y (List.mem_cons_of_mem _ hy)
    rw [List.map_cons, nds, List.length_cons, Nat.add_mul, Nat.one_mul]; omega
theorem dps_map {α : Type} (f : α → D) {k : Nat} : ∀ xs : List α, (∀ x ∈ xs, (f x).dp ≤ k) → dps (xs.map f) ≤ k
  | [], _ => by simp [dps]
  | x :: xs, h => by
    have h1 := h x List.mem_cons_self
    have h2 := dps_map f xs fun y hy => h y (List.mem_cons_of_mem _ hy)
    rw [List.map_cons, dps]; omega
theorem lfk_map {α : Type} (f : α → Key × D) : ∀ xs : List α, (∀ x ∈ xs, txK (f x).1 = true ∧ (f x).2.lf = true) → lfk (xs.map f) = true
  | [], _ => by simp [lfk]
  | x :: xs, h => by
    rw [List.map_cons, lfk, lfp, (h x List.mem_cons_self).1, (h x List.mem_cons_self).2, lfk_map f xs fun y hy => h y (List.mem_cons_of_mem _ hy)]; rfl
theorem ndk_map {α : Type} (f : α → Key × D) {k : Nat} : ∀ xs : List α, (∀ x ∈ xs, (f x).2.nd ≤ k) → ndk (xs.map f) ≤ xs.length * (k + 1)
  | [], _ => by simp [ndk]
  | x :: xs, h => by
    have h1 := h x List.mem_cons_self
    have h2 := ndk_map f xs fun y hy => h y (List.mem_cons_of_mem _ hy)
    rw [List.map_cons, ndk, ndp, List.length_cons, Nat.add_mul, Nat.one_mul]; omega
theorem dpk_map {α : Type} (f : α → Key × D) {k : Nat} : ∀ xs : List α, (∀ x ∈ xs, (f x).2.dp ≤ k) → dpk (xs.map f) ≤ k
  | [], _ => by simp [dpk]
  | x :: xs, h => by
    have h1 := h x List.mem_cons_self
    have h2 := dpk_map f xs fun y hy => h y (List.mem_cons_of_mem _ hy)
    rw [List.map_cons, dpk, dpp]; omega
end Z

set_option Elab.async false
set_option linter.all false
set_option maxRecDepth 100000
set_option maxHeartbeats 2000000
namespace Tx
open PySem PySem.Spec PyProof.Rows L2 Z
/-! # texts as lists of signs -/
def S (l : List Nat) : Str := ⟨l.toArray⟩
theorem S_len (l : List Nat) : (S l).length = l.length := by simp [S, Str.length]
theorem S_inj {a b : List Nat} (h : S a = S b) : a = b := by
  have := congrArg (fun s : Str => s.cps.toList) h
  simpa [S] using this
theorem S_of (x : Str) : S x.cps.toList = x := by cases x; simp [S]
theorem S_app (a b : List Nat) : S a ++ S b = S (a ++ b) := by
  show Str.mk (a.toArray ++ b.toArray) = _
  simp [S]
def okL (l : List Nat) : Prop := ∀ c ∈ l, c < 128
theorem okL.app {a b : List Nat} (h : okL a) (g : okL b) : okL (a ++ b) := fun c hc => (List.mem_append.mp hc).elim (h c) (g c)
theorem okL.take {a : List Nat} (h : okL a) (n : Nat) : okL (a.take n) := fun c hc => h c (List.mem_of_mem_take hc)
theorem okL.drop {a : List Nat} (h : okL a) (n : Nat) : okL (a.drop n) := fun c hc => h c (List.mem_of_mem_drop hc)
theorem okL_str {l : List Nat} (h : okL l) : PyData.strOk (S l) = true := by
  unfold PyData.strOk S
  rw [Array.all_eq_true_iff_forall_mem]
  intro x hx
  have := h x (by simpa using hx)
  simp
  omega
theorem add_S {a b : List Nat} (h : a.length + b.length ≤ sizeLine) : binD .Add (.str (S a)) (.str (S b)) = some (.str (S (a ++ b))) := by
  show (if (S a).length + (S b).length ≤ sizeLine then some (D.str (S a ++ S b)) else none) = _
  rw [S_len, S_len, if_pos h, S_app]
theorem len_S {l : List Nat} (h : l.length ≤ sizeLine) : bltD .len [.str (S l)] = some (.int (l.length : Int)) := by
  show (if (S l).length ≤ sizeLine then some (D.int ((S l).length : Int)) else none) = _
  rw [S_len, if_pos h]
theorem sIx_nat (n d i : Nat) : HT.sIx n d (some (i : Int)) = min i n := by
  show (if (i : Int) < 0 then ((i : Int) + (n : Int)).toNat else min (i : Int).toNat n) = min i n
  rw [if_neg (by omega)]
  simp
theorem take_cut (l : List Nat) (i j : Nat) : (l.drop (min i l.length)).take (min j l.length - min i l.length) = (l.drop i).take (j - i) := by
  by_cases h : i ≤ l.length
  · rw [Nat.min_eq_left h]
    by_cases g : j ≤ l.length
    · rw [Nat.min_eq_left g]
    · rw [Nat.min_eq_right (by omega), List.take_of_length_le (by rw [List.length_drop]; omega), List.take_of_length_le (by rw [List.length_drop]; omega)]
  · rw [Nat.min_eq_right (show l.length ≤ i by omega), List.drop_of_length_le (Nat.le_refl _), List.drop_of_length_le (show l.length ≤ i by omega)]
    simp
theorem sl_S {l : List Nat} (hl : l.length ≤ sizeLine) (i j : Nat) : slD (.str (S l)) (some (i : Int)) (some (j : Int)) = some (.str (S ((l.drop i).take (j - i)))) := by
  show (if (S l).length ≤ sizeLine then some (D.str (cutS (S l) (some (i : Int)) (some (j : Int)))) else none) = _
  rw [S_len, if_pos hl]
  unfold cutS
  rw [S_len, sIx_nat, sIx_nat]
  show some (D.str ⟨((List.drop (min i l.length) l.toArray.toList).take _).toArray⟩) = _
  rw [List.toList_toArray, take_cut]
  rfl
theorem sl0_S {l : List Nat} (hl : l.length ≤ sizeLine) (j : Nat) : slD (.str (S l)) none (some (j : Int)) = some (.str (S (l.take j))) := by
  show (if (S l).length ≤ sizeLine then some (D.str (cutS (S l) none (some (j : Int)))) else none) = _
  rw [S_len, if_pos hl]
  unfold cutS
  rw [S_len, sIx_nat]
  show some (D.str ⟨((List.drop 0 l.toArray.toList).take (min j l.length - 0)).toArray⟩) = _
  rw [List.toList_toArray, List.drop_zero, Nat.sub_zero]
  have : l.take (min j l.length) = l.take j := by
    by_cases g : j ≤ l.length
    · rw [Nat.min_eq_left g]
    · rw [Nat.min_eq_right (by omega), List.take_of_length_le (Nat.le_refl _), List.take_of_length_le (by omega)]
  rw [this]
  rfl
theorem idx_S {l : List Nat} (hl : l.length ≤ sizeLine) {i : Nat} {c : Nat} (h : l[i]? = some c) : idxD (.str (S l)) (.int (i : Int)) = some (.str (S [c])) := by
  have hi : i < l.length := (List.getElem?_eq_some_iff.mp h).1
  show (if (S l).length ≤ sizeLine then (atI (S l).cps.toList (i : Int)).map fun c => D.str ⟨#[c]⟩ else none) = _
  rw [S_len, if_pos hl]
  show (atI l.toArray.toList (i : Int)).map _ = _
  rw [List.toList_toArray, Z.atI_nat hi, h]
  rfl
theorem eq_S {a b : List Nat} (ha : okL a) (hb : okL b) : cmpD .Eq (.str (S a)) (.str (S b)) = some (decide (a = b)) := by
  rw [eq_ss _ _ (okL_str ha) (okL_str hb)]
  congr 1
  exact decide_eq_decide.mpr ⟨S_inj, fun h => by rw [h]⟩
theorem ne_S {a b : List Nat} (ha : okL a) (hb : okL b) : cmpD .NotEq (.str (S a)) (.str (S b)) = some (!decide (a = b)) := by
  have e := eq_S ha hb
  simp only [cmpD] at e ⊢
  split at e
  · rename_i h
    rw [if_pos h, Option.some.inj e]
  · cases e
def dig (c : Nat) : Bool := decide (48 ≤ c) && decide (c ≤ 57)
theorem in_dig : ∀ c, c < 128 → cmpD .In (.str (S [c])) (.str "0123456789") = some (dig c) := by
  have : ∀ c ∈ List.range 128, cmpD .In (.str (S [c])) (.str "0123456789") = some (dig c) := by decide +kernel
  exact fun c h => this c (List.mem_range.mpr h)
theorem in_open : ∀ c, c < 128 → cmpD .In (.str (S [c])) (.str "([") = some (decide (c = 40 ∨ c = 91)) := by
  have : ∀ c ∈ List.range 128, cmpD .In (.str (S [c])) (.str "([") = some (decide (c = 40 ∨ c = 91)) := by decide +kernel
  exact fun c h => this c (List.mem_range.mpr h)
theorem nin_close : ∀ c, c < 128 → cmpD .NotIn (.str (S [c])) (.str ")]") = some (!decide (c = 41 ∨ c = 93)) := by
  have : ∀ c ∈ List.range 128, cmpD .NotIn (.str (S [c])) (.str ")]") = some (!decide (c = 41 ∨ c = 93)) := by decide +kernel
  exact fun c h => this c (List.mem_range.mpr h)
/-! # whole numbers as digits -/
def dg (n : Nat) : List Nat := (Nat.toDigits 10 n).map Char.toNat
theorem str_dg {n : Nat} (h : n < 2 ^ 60) : bltD .str [.int (n : Int)] = some (.str (S (dg n))) := by
  have hl : (n : Int).natAbs.log2 < 1920 := by
    have e : (n : Int).natAbs = n := by omega
    rw [e]
    by_cases z : n = 0
    · subst z; decide
    · exact (Nat.log2_lt z).mpr (Nat.lt_of_lt_of_le h (Nat.pow_le_pow_right (by omega) (by omega)))
  show (if (n : Int).natAbs.log2 < 1920 then some (D.str (Str.ofString (toString (n : Int)))) else none) = _
  rw [if_pos hl]
  have e := PyProof.Rows.text_ofNat n
  have e : Str.ofString (toString (n : Int)) = S (dg n) := e
  rw [e]
theorem dg_val (n : Nat) : NumText.digitsVal (dg n) = n := PySem.W.KIN.val_back n
theorem dg_pos (n : Nat) : dg n ≠ [] := by
  unfold dg
  intro h
  have h2 := List.map_eq_nil_iff.mp h
  have := dg_val n
  unfold dg at this
  rw [h2] at this
  have z : n = 0 := this.symm
  subst z
  exact absurd h2 (by decide)
theorem dg_all (n : Nat) : NumText.AllDigits (dg n) := by
  intro c hc
  unfold dg at hc
  obtain ⟨x, hx, rfl⟩ := List.mem_map.mp hc
  have := Nat.isDigit_of_mem_toDigits (by omega) (by omega) hx
  simp [Char.isDigit] at this
  have h1 : (48 : UInt32).toNat ≤ x.val.toNat := UInt32.le_iff_toNat_le.mp this.1
  have h2 : x.val.toNat ≤ (57 : UInt32).toNat := UInt32.le_iff_toNat_le.mp this.2
  exact ⟨h1, h2⟩
theorem dg_dig (n : Nat) : ∀ c ∈ dg n, dig c = true := fun c hc => by
  have := dg_all n c hc
  simp [dig, this.1, this.2]
theorem dg_ok (n : Nat) : okL (dg n) := fun c hc => by
  have := dg_all n c hc
  omega
theorem dg_zero {n : Nat} {r : List Nat} (h : dg n = 48 :: r) : r = [] := by
  have e := PySem.NumText.toDigits_all (dg n) (dg_all n)
  rw [dg_val] at e
  have l1 : (dg n).length = (Nat.toDigits 10 n).length := by unfold dg; rw [List.length_map]
  have l2 := congrArg List.length e
  rw [← l1, h] at l2
  cases hd : List.dropWhile (fun x => x == 48) (48 :: r) with
  | nil =>
    rw [hd] at l2
    simp at l2
    exact l2
  | cons c q =>
    rw [hd] at l2
    have d1 : List.dropWhile (fun x => x == 48) (48 :: r) = List.dropWhile (fun x => x == 48) r := by simp [List.dropWhile]
    have d2 := (List.dropWhile_sublist (fun x => x == 48) (l := r)).length_le
    rw [← d1, hd] at d2
    simp at l2 d2
    omega
theorem dg_len {n : Nat} (h : n < 10 ^ 10) : (dg n).length ≤ 10 := by
  have e := PyProof.Rows.toString_length_le (v := (n : Int)) (by omega) (k := 10) (by omega) (by have : ((10 : Int) ^ 10) = ((10 ^ 10 : Nat) : Int) := by norm_cast
                                                                                                 omega)
  have e2 : Str.ofString (toString (n : Int)) = S (dg n) := PyProof.Rows.text_ofNat n
  rw [e2, S_len] at e
  exact e
theorem int_ds {ds : List Nat} (h : ∀ c ∈ ds, dig c = true) (hn : ds ≠ []) (hl : ds.length ≤ 640) : bltD .int [.str (S ds)] = some (.int (NumText.digitsVal ds : Int)) := by
  have e : (S ds).cps.toList = ds := by simp [S]
  have a : NumText.AllDigits (S ds).cps.toList := by
    rw [e]
    intro c hc
    have := h c hc
    simpa [dig] using this
  have i := PySem.intText_digits a (by rw [e]; exact hn) (by rw [S_len]; omega)
  show (if (S ds).length ≤ 640 then (intText? (S ds)).map D.int else none) = _
  rw [S_len, if_pos hl, i, e]
  rfl
/-! # a while over digits -/
theorem whGo_scan {cnd : Env' → Store → Option (Bool × Store)} {body : Env' → Store → Option Out} {ρ : Nat → Env'} {St : Store} {l : List Nat}
    (h1 : ∀ e c, l[e]? = some c → dig c = true → cnd (ρ e) St = some (true, St)) (h2 : ∀ e, (∀ c, l[e]? = some c → dig c = false) → cnd (ρ e) St = some (false, St)) (h3 : ∀ e, body (ρ e) St = some (.nxt (ρ (e + 1)) St)) :
    ∀ (m e : Nat), l.length < m + e → whGo cnd body (m + 1) (ρ e) St = some (.nxt (ρ (e + ((l.drop e).takeWhile dig).length)) St)
  | m, e, hm => by
    unfold whGo
    cases z : l[e]? with
    | none =>
      rw [h2 e (fun c hc => by rw [z] at hc; cases hc)]
      have : l.drop e = [] := List.drop_of_length_le (List.getElem?_eq_none_iff.mp z)
      rw [this]
      simp
    | some c =>
      have he : e < l.length := (List.getElem?_eq_some_iff.mp z).1
      have hd : l.drop e = c :: l.drop (e + 1) := by
        rw [List.drop_eq_getElem_cons he]
        rw [List.getElem?_eq_getElem he] at z
        cases z; rfl
      cases y : dig c with
      | false =>
        rw [h2 e (fun c' hc => by rw [z] at hc; cases hc; exact y), hd]
        simp [y]
      | true =>
        rw [h1 e c z y]
        simp only [Option.bind_some, if_true, h3]
        cases m with
        | zero => omega
        | succ m =>
          have ih := whGo_scan h1 h2 h3 m (e + 1) (by omega)
          rw [ih, hd, List.takeWhile_cons, if_pos y, List.length_cons]
          rw [show e + 1 + (List.takeWhile dig (List.drop (e + 1) l)).length = e + ((List.takeWhile dig (List.drop (e + 1) l)).length + 1) by omega]
theorem tw_take {l : List Nat} (p : Nat → Bool) : l.take (l.takeWhile p).length = l.takeWhile p := by
  induction l with
  | nil => rfl
  | cons a l ih =>
    rw [List.takeWhile_cons]
    split
    · simp [ih]
    · rfl
theorem tw_next {l : List Nat} (p : Nat → Bool) : ∀ c, l[(l.takeWhile p).length]? = some c → p c = false := by
  induction l with
  | nil => intro c h; simp at h
  | cons a l ih =>
    intro c h
    rw [List.takeWhile_cons] at h
    split at h
    · exact ih c (by simpa using h)
    · rename_i hp
      simp at h; subst h
      simpa using hp
theorem tw_all {l : List Nat} (p : Nat → Bool) : ∀ c ∈ l.takeWhile p, p c = true := by
  induction l with
  | nil => intro c h; simp at h
  | cons a l ih =>
    intro c h
    rw [List.takeWhile_cons] at h
    split at h
    · rename_i hp
      rcases List.mem_cons.mp h with rfl | h
      · exact hp
      · exact ih c h
    · simp at h
theorem tw_app {a b : List Nat} (p : Nat → Bool) (ha : ∀ c ∈ a, p c = true) (hb : ∀ c, b.head? = some c → p c = false) : (a ++ b).takeWhile p = a := by
  induction a with
  | nil =>
    cases b with
    | nil => rfl
    | cons x b => simp [hb x rfl]
  | cons x a ih =>
    rw [List.cons_append, List.takeWhile_cons, if_pos (ha x List.mem_cons_self), ih fun c hc => ha c (List.mem_cons_of_mem _ hc)]
end Tx

set_option Elab.async false
set_option linter.all false
set_option maxRecDepth 100000
set_option maxHeartbeats 4000000
namespace K50
open PySem PySem.Spec PyProof.Rows L2 Z
def top (i : Nat) : Stmt := PySem.Challenge.pw_intentstore_k50_logs.main.body.getD i (.Pass ⟨0, 0, 0, 0⟩)
def inCls : Stmt → List Stmt
  | .ClassDef _ _ _ b _ _ _ _ _ _ _ => b
  | _ => []
def meth (i j : Nat) : Stmt := (inCls (top i)).getD j (.Pass ⟨0, 0, 0, 0⟩)
def b__wall : Sms :=
      (.cons (.while_ (.cst (.bl true)) (.cons .pass
      .nil))
      .nil)
def b_written : Sms :=
      (.cons (.ife (.iso false (.var 0) (.cst .non)) (.cons (.ret (.cst (.str "-")))
      .nil) .nil)
      (.cons (.ife (.ist 0 (.var 0)) (.cons (.ret (.bin .Add (.blt .str (.cons (.var 0) .nil)) (.cst (.str "."))))
      .nil) .nil)
      (.cons (.ife (.iss (.var 0)) (.cons (.ret (.bin .Add (.bin .Add (.blt .str (.cons (.blt .len (.cons (.var 0) .nil)) .nil)) (.cst (.str "\""))) (.var 0)))
      .nil) .nil)
      (.cons (.asg (.nm 1) (.join "" (.comp (.nm 2) (.seq (.var 0)) .nil (.call "written" (.cons (.var 2) .nil)))))
      (.cons (.ret (.ife (.ist 1 (.var 0)) (.bin .Add (.bin .Add (.cst (.str "(")) (.var 1)) (.cst (.str ")"))) (.bin .Add (.bin .Add (.cst (.str "[")) (.var 1)) (.cst (.str "]")))))
      .nil)))))
def b__number_at : Sms :=
      (.cons (.asg (.nm 2) (.var 1))
      (.cons (.while_ (.and (.cmp .NotEq (.sl (.var 0) (.cons (.var 2) .nil) (.cons (.bin .Add (.var 2) (.cst (.int 1))) .nil)) (.cst (.str ""))) (.cmp .In (.idx (.var 0) (.var 2)) (.glb "DIGITS" (.one (.str "0123456789"))))) (.cons (.aug 2 .Add (.cst (.int 1)))
      .nil))
      (.cons (.ret (.tup (.cons (.blt .int (.cons (.sl (.var 0) (.cons (.var 1) .nil) (.cons (.var 2) .nil)) .nil)) (.cons (.var 2) .nil))))
      .nil)))
def b__read : Sms :=
      (.cons (.asg (.nm 2) (.idx (.var 0) (.var 1)))
      (.cons (.ife (.cmp .Eq (.var 2) (.cst (.str "-"))) (.cons (.ret (.tup (.cons (.cst .non) (.cons (.bin .Add (.var 1) (.cst (.int 1))) .nil))))
      .nil) .nil)
      (.cons (.ife (.cmp .In (.var 2) (.cst (.str "(["))) (.cons (.own 3 (.list .nil))
      (.cons (.aug 1 .Add (.cst (.int 1)))
      (.cons (.while_ (.cmp .NotIn (.idx (.var 0) (.var 1)) (.cst (.str ")]"))) (.cons (.asg (.nms [6, 1]) (.call "_read" (.cons (.var 0) (.cons (.var 1) .nil))))
      (.cons (.app (.var 3) (.var 6))
      .nil)))
      (.frz 3 (.cons (.ret (.tup (.cons (.ife (.cmp .Eq (.var 2) (.cst (.str "("))) (.blt .tuple (.cons (.var 3) .nil)) (.var 3)) (.cons (.bin .Add (.var 1) (.cst (.int 1))) .nil))))
      .nil))))) .nil)
      (.cons (.asg (.nms [4, 5]) (.call "_number_at" (.cons (.var 0) (.cons (.var 1) .nil))))
      (.cons (.ife (.cmp .Eq (.idx (.var 0) (.var 5)) (.cst (.str "."))) (.cons (.ret (.tup (.cons (.var 4) (.cons (.bin .Add (.var 5) (.cst (.int 1))) .nil))))
      .nil) .nil)
      (.cons (.ret (.tup (.cons (.sl (.var 0) (.cons (.bin .Add (.var 5) (.cst (.int 1))) .nil) (.cons (.bin .Add (.bin .Add (.var 5) (.cst (.int 1))) (.var 4)) .nil)) (.cons (.bin .Add (.bin .Add (.var 5) (.cst (.int 1))) (.var 4)) .nil))))
      .nil))))))
def b_check_of : Sms :=
      (.cons (.asg (.nm 1) (.cst (.int 11)))
      (.cons (.for_ (.nm 2) (.seq (.var 0)) (.cons (.asg (.nm 1) (.bin .Mod (.blt .int (.cons (.bin .Add (.bin .Mult (.var 1) (.cst (.int 31))) (.blt .ord (.cons (.var 2) .nil))) .nil)) (.glb "MODULUS" (.one (.int 1000000007)))))
      .nil))
      (.cons (.ret (.var 1))
      .nil)))
def b_record_of : Sms :=
      (.cons (.asg (.nm 1) (.call "written" (.cons (.var 0) .nil)))
      (.cons (.ret (.bin .Add (.bin .Add (.bin .Add (.bin .Add (.bin .Add (.blt .str (.cons (.blt .len (.cons (.var 1) .nil)) .nil)) (.cst (.str ":"))) (.var 1)) (.cst (.str ":"))) (.blt .str (.cons (.call "check_of" (.cons (.var 1) .nil)) .nil))) (.cst (.str ";"))))
      .nil))
def b__head : Sms :=
      (.cons (.asg (.nm 3) (.var 1))
      (.cons (.while_ (.and (.cmp .NotEq (.sl (.var 0) (.cons (.var 3) .nil) (.cons (.bin .Add (.var 3) (.cst (.int 1))) .nil)) (.cst (.str ""))) (.cmp .In (.idx (.var 0) (.var 3)) (.glb "DIGITS" (.one (.str "0123456789"))))) (.cons (.aug 3 .Add (.cst (.int 1)))
      .nil))
      (.cons (.ife (.or (.cmp .Eq (.var 3) (.var 1)) (.or (.cmp .NotEq (.sl (.var 0) (.cons (.var 3) .nil) (.cons (.bin .Add (.var 3) (.cst (.int 1))) .nil)) (.var 2)) (.and (.cmp .Eq (.idx (.var 0) (.var 1)) (.cst (.str "0"))) (.cmp .Gt (.var 3) (.bin .Add (.var 1) (.cst (.int 1))))))) (.cons (.ret (.cst .non))
      .nil) .nil)
      (.cons (.ret (.tup (.cons (.blt .int (.cons (.sl (.var 0) (.cons (.var 1) .nil) (.cons (.var 3) .nil)) .nil)) (.cons (.bin .Add (.var 3) (.cst (.int 1))) .nil))))
      .nil))))
def b_record_at : Sms :=
      (.cons (.asg (.nm 2) (.call "_head" (.cons (.var 0) (.cons (.var 1) (.cons (.cst (.str ":")) .nil)))))
      (.cons (.ife (.iso false (.var 2) (.cst .non)) (.cons (.ret (.cst .non))
      .nil) .nil)
      (.cons (.asg (.nm 3) (.bin .Add (.idx (.var 2) (.cst (.int 1))) (.idx (.var 2) (.cst (.int 0)))))
      (.cons (.asg (.nm 4) (.sl (.var 0) (.cons (.idx (.var 2) (.cst (.int 1))) .nil) (.cons (.var 3) .nil)))
      (.cons (.asg (.nm 5) (.ife (.cmp .Eq (.sl (.var 0) (.cons (.var 3) .nil) (.cons (.bin .Add (.var 3) (.cst (.int 1))) .nil)) (.cst (.str ":"))) (.call "_head" (.cons (.var 0) (.cons (.bin .Add (.var 3) (.cst (.int 1))) (.cons (.cst (.str ";")) .nil)))) (.cst .non)))
      (.cons (.ife (.or (.iso false (.var 5) (.cst .non)) (.or (.cmp .Eq (.var 4) (.cst (.str ""))) (.cmp .NotEq (.idx (.var 5) (.cst (.int 0))) (.call "check_of" (.cons (.var 4) .nil))))) (.cons (.ret (.cst .non))
      .nil) .nil)
      (.cons (.ret (.tup (.cons (.idx (.call "_read" (.cons (.var 4) (.cons (.cst (.int 0)) .nil))) (.cst (.int 0))) (.cons (.idx (.var 5) (.cst (.int 1))) .nil))))
      .nil)))))))
def b_Log_init : Sms :=
      (.cons (.setf (.var 0) "text" (.cst (.str "")))
      (.cons (.setf (.var 0) "safe" (.cst (.int 0)))
      (.cons (.setf (.var 0) "count" (.cst (.int 0)))
      (.cons (.setf (.var 0) "safe_count" (.cst (.int 0)))
      .nil))))
def b_Log_write : Sms :=
      (.cons (.setf (.var 0) "text" (.bin .Add (.fld (.var 0) "text") (.call "record_of" (.cons (.var 1) .nil))))
      (.cons (.augf (.var 0) "count" .Add (.cst (.int 1)))
      .nil))
def b_Log_make_safe : Sms :=
      (.cons (.setf (.var 0) "safe" (.blt .len (.cons (.fld (.var 0) "text") .nil)))
      (.cons (.setf (.var 0) "safe_count" (.fld (.var 0) "count"))
      .nil))
def b_Log_safe_batches : Sms :=
      (.cons (.expr (.call "_wall" (.cons (.cst (.int 0)) .nil)))
      .nil)
def b_Log_fall : Sms :=
      (.cons (.setf (.var 0) "text" (.sl (.fld (.var 0) "text") .nil (.cons (.bin .Add (.fld (.var 0) "safe") (.var 1)) .nil)))
      .nil)
def b_Log_recover : Sms :=
      (.cons (.own 1 (.list .nil))
      (.cons (.asg (.nm 2) (.cst (.int 0)))
      (.cons (.asg (.nm 3) (.call "record_at" (.cons (.fld (.var 0) "text") (.cons (.var 2) .nil))))
      (.cons (.while_ (.iso true (.var 3) (.cst .non)) (.cons (.app (.var 1) (.idx (.var 3) (.cst (.int 0))))
      (.cons (.asg (.nm 2) (.idx (.var 3) (.cst (.int 1))))
      (.cons (.asg (.nm 3) (.call "record_at" (.cons (.fld (.var 0) "text") (.cons (.var 2) .nil))))
      .nil))))
      (.cons (.setf (.var 0) "text" (.sl (.fld (.var 0) "text") .nil (.cons (.var 2) .nil)))
      (.cons (.setf (.var 0) "count" (.blt .len (.cons (.var 1) .nil)))
      (.cons (.expr (.meth (.var 0) "make_safe" .nil))
      (.frz 1 (.cons (.ret (.var 1))
      .nil)))))))))
def b__law_state : Sms :=
      (.cons (.asg (.nm 1) (.mref (.comp (.nm 2) (.seq (.sl (.var 0) .nil (.cons (.cst (.int 63)) .nil))) .nil (.blt .abs (.cons (.var 2) .nil)))))
      (.cons (.ife (.cmp .Eq (.blt .len (.cons (.var 1) .nil)) (.cst (.int 0))) (.cons (.asg (.nm 1) (.mref (.list (.cons (.cst (.int 0)) .nil))))
      .nil) .nil)
      (.cons (.ret (.mref (.list (.cons (.cst (.int 0)) (.cons (.var 1) .nil)))))
      .nil)))
def b__law_take : Sms :=
      (.cons (.ife (.cmp .Lt (.var 1) (.cst (.int 1))) (.cons (.ret (.cst (.int 0)))
      .nil) .nil)
      (.cons (.asg (.nm 2) (.idx (.var 0) (.cst (.int 1))))
      (.cons (.asg (.nm 3) (.bin .Mod (.idx (.var 0) (.cst (.int 0))) (.blt .len (.cons (.var 2) .nil))))
      (.cons (.asg (.nm 4) (.idx (.var 2) (.var 3)))
      (.cons (.ife (.cmp .GtE (.var 4) (.cst (.int 1000000000000000000))) (.cons (.seti (.var 2) (.var 3) (.bin .FloorDiv (.var 4) (.var 1)))
      (.cons (.ret (.bin .Mod (.var 4) (.var 1)))
      .nil)) .nil)
      (.cons (.seti (.var 0) (.cst (.int 0)) (.bin .Add (.idx (.var 0) (.cst (.int 0))) (.cst (.int 1))))
      (.cons (.asg (.nm 5) (.bin .Mod (.blt .int (.cons (.bin .Add (.bin .Mult (.var 4) (.cst (.int 48271))) (.bin .Mult (.idx (.var 0) (.cst (.int 0))) (.cst (.int 69621)))) .nil)) (.cst (.int 2147483647))))
      (.cons (.asg (.nm 5) (.bin .Mod (.blt .int (.cons (.bin .Add (.bin .Mult (.var 5) (.cst (.int 16807))) (.bin .Mult (.idx (.var 0) (.cst (.int 0))) (.cst (.int 7919)))) .nil)) (.cst (.int 1000000007))))
      (.cons (.ret (.bin .Mod (.bin .FloorDiv (.var 5) (.cst (.int 7))) (.var 1)))
      .nil)))))))))
def b__law_bits : Sms :=
      (.cons (.ret (.comp (.nm 2) (.rng (.var 1)) .nil (.call "_law_take" (.cons (.var 0) (.cons (.cst (.int 2)) .nil)))))
      .nil)
def b__law_change : Sms :=
      (.cons (.asg (.nm 1) (.tup (.cons (.cst (.str "intent")) (.cons (.cst (.int 7)) (.cons (.cst (.int 0)) (.cons (.cst (.int 5)) (.cons (.cst (.str "a")) (.cons (.tup (.cons (.cst (.int 10)) (.cons (.cst (.int 1)) .nil))) (.cons (.tup (.cons (.cst (.int 9)) (.cons (.cst (.int 0)) .nil))) (.cons (.list (.cons (.tup (.cons (.cst (.int 1)) (.cons (.cst (.str "x:;")) .nil))) (.cons (.tup (.cons (.cst (.int 2)) (.cons (.cst .non) .nil))) .nil))) .nil))))))))))
      (.cons (.asg (.nm 2) (.tup (.cons (.cst (.str "record")) (.cons (.cst (.int 7)) (.cons (.cst (.int 1)) (.cons (.cst (.str "staged")) (.cons (.cst (.int 5)) (.cons (.cst (.str "a")) (.cons (.tup (.cons (.cst (.int 12)) (.cons (.cst (.int 0)) .nil))) (.cons (.tup (.cons (.cst (.int 11)) (.cons (.cst (.int 0)) .nil))) (.cons (.list (.cons (.tup (.cons (.cst (.str "a")) (.cons (.cst (.int 1)) .nil))) (.cons (.tup (.cons (.cst (.str "b")) (.cons (.cst (.int 2)) .nil))) .nil))) .nil)))))))))))
      (.cons (.asg (.nm 3) (.list (.cons (.tup (.cons (.cst (.str "version")) (.cons (.cst (.str "a")) (.cons (.tup (.cons (.call "_law_take" (.cons (.var 0) (.cons (.cst (.int 1000)) .nil))) (.cons (.cst (.int 0)) .nil))) (.cons (.idx (.list (.cons (.cst (.str "")) (.cons (.cst (.str "v")) (.cons (.cst (.str "(2)")) (.cons (.cst .non) .nil))))) (.call "_law_take" (.cons (.var 0) (.cons (.cst (.int 4)) .nil)))) .nil))))) (.cons (.tup (.cons (.cst (.str "intent")) (.cons (.cst (.str "b")) (.cons (.var 1) .nil)))) .nil))))
      (.cons (.asg (.nm 3) (.bin .Add (.var 3) (.list (.cons (.tup (.cons (.cst (.str "intent")) (.cons (.cst (.str "b")) (.cons (.cst .non) .nil)))) (.cons (.tup (.cons (.cst (.str "record")) (.cons (.var 2) .nil))) (.cons (.tup (.cons (.cst (.str "bound")) (.cons (.call "_law_take" (.cons (.var 0) (.cons (.cst (.int 99999)) .nil))) .nil))) (.cons (.tup (.cons (.cst (.str "no version")) (.cons (.cst (.str "zz")) (.cons (.tup (.cons (.cst (.int 0)) (.cons (.cst (.int 999999)) .nil))) .nil)))) .nil)))))))
      (.cons (.ret (.idx (.var 3) (.call "_law_take" (.cons (.var 0) (.cons (.cst (.int 6)) .nil)))))
      .nil)))))
def b__law_form : Sms :=
      (.cons (.ife (.iso false (.var 0) (.cst .non)) (.cons (.ret (.cst (.str "-")))
      .nil) .nil)
      (.cons (.ife (.iss (.var 0)) (.cons (.ret (.bin .Add (.bin .Add (.blt .str (.cons (.blt .len (.cons (.var 0) .nil)) .nil)) (.cst (.str "\""))) (.var 0)))
      .nil) .nil)
      (.cons (.ife (.ist 1 (.var 0)) (.cons (.ret (.bin .Add (.bin .Add (.cst (.str "(")) (.join "" (.comp (.nm 1) (.seq (.var 0)) .nil (.call "_law_form" (.cons (.var 1) .nil))))) (.cst (.str ")"))))
      .nil) .nil)
      (.cons (.ife (.ist 2 (.var 0)) (.cons (.ret (.bin .Add (.bin .Add (.cst (.str "[")) (.join "" (.comp (.nm 1) (.seq (.var 0)) .nil (.call "_law_form" (.cons (.var 1) .nil))))) (.cst (.str "]"))))
      .nil) .nil)
      (.cons (.ret (.bin .Add (.blt .str (.cons (.var 0) .nil)) (.cst (.str "."))))
      .nil)))))
def b__law_check : Sms :=
      (.cons (.asg (.nm 1) (.cst (.int 11)))
      (.cons (.for_ (.nm 2) (.seq (.var 0)) (.cons (.asg (.nm 1) (.bin .Mod (.blt .int (.cons (.bin .Add (.bin .Mult (.var 1) (.cst (.int 31))) (.blt .ord (.cons (.var 2) .nil))) .nil)) (.cst (.int 1000000007))))
      .nil))
      (.cons (.ret (.var 1))
      .nil)))
def b__law_record : Sms :=
      (.cons (.asg (.nm 1) (.call "_law_form" (.cons (.var 0) .nil)))
      (.cons (.ret (.bin .Add (.bin .Add (.bin .Add (.bin .Add (.bin .Add (.blt .str (.cons (.blt .len (.cons (.var 1) .nil)) .nil)) (.cst (.str ":"))) (.var 1)) (.cst (.str ":"))) (.blt .str (.cons (.call "_law_check" (.cons (.var 1) .nil)) .nil))) (.cst (.str ";"))))
      .nil))
def b__law_fallen : Sms :=
      (.cons (.expr (.meth (.var 0) "fall" (.cons (.var 2) .nil)))
      (.cons (.seti (.var 1) (.cst (.int 2)) (.sl (.idx (.var 1) (.cst (.int 2))) .nil (.cons (.bin .Add (.idx (.var 1) (.cst (.int 3))) (.var 2)) .nil)))
      (.cons (.asg (.nm 3) (.blt .len (.cons (.comp (.nm 4) (.seq (.idx (.var 1) (.cst (.int 1)))) (.cons (.cmp .LtE (.var 4) (.blt .len (.cons (.idx (.var 1) (.cst (.int 2))) .nil))) .nil) (.var 4)) .nil)))
      (.cons (.ife (.or (.cmp .NotEq (.fld (.var 0) "text") (.idx (.var 1) (.cst (.int 2)))) (.cmp .NotEq (.meth (.var 0) "recover" .nil) (.sl (.idx (.var 1) (.cst (.int 0))) .nil (.cons (.var 3) .nil)))) (.cons (.ret (.cst (.bl false)))
      .nil) .nil)
      (.cons (.seti (.var 1) (.cst (.int 0)) (.mref (.lsl (.idx (.var 1) (.cst (.int 0))) .nil (.cons (.var 3) .nil))))
      (.cons (.seti (.var 1) (.cst (.int 1)) (.mref (.lsl (.idx (.var 1) (.cst (.int 1))) .nil (.cons (.var 3) .nil))))
      (.cons (.seti (.var 1) (.cst (.int 2)) (.sl (.idx (.var 1) (.cst (.int 2))) .nil (.cons (.blt .max (.cons (.bin .Add (.idx (.var 1) (.cst (.int 1))) (.list (.cons (.cst (.int 0)) .nil))) .nil)) .nil)))
      (.cons (.seti (.var 1) (.cst (.int 3)) (.blt .len (.cons (.idx (.var 1) (.cst (.int 2))) .nil)))
      (.cons (.ret (.cst (.bl true)))
      .nil)))))))))
def b_law : Sms :=
      (.cons (.asg (.nm 1) (.call "_law_state" (.cons (.var 0) .nil)))
      (.cons (.asg (.nm 2) (.mk "Log" .nil))
      (.cons (.asg (.nm 3) (.mref (.list (.cons (.mref (.list .nil)) (.cons (.mref (.list .nil)) (.cons (.cst (.str "")) (.cons (.cst (.int 0)) .nil)))))))
      (.cons (.for_ (.nm 4) (.rng (.call "_law_take" (.cons (.var 1) (.cons (.cst (.int 15)) .nil)))) (.cons (.asg (.nm 5) (.call "_law_take" (.cons (.var 1) (.cons (.cst (.int 6)) .nil))))
      (.cons (.ife (.cmp .Lt (.var 5) (.cst (.int 3))) (.cons (.asg (.nm 6) (.comp (.nm 8) (.rng (.bin .Add (.cst (.int 1)) (.call "_law_take" (.cons (.var 1) (.cons (.cst (.int 3)) .nil))))) .nil (.call "_law_change" (.cons (.var 1) .nil))))
      (.cons (.asg (.nm 7) (.blt .repr (.cons (.var 6) .nil)))
      (.cons (.expr (.meth (.var 2) "write" (.cons (.var 6) .nil)))
      (.cons (.ife (.or (.cmp .NotEq (.blt .repr (.cons (.var 6) .nil)) (.var 7)) (.or (.cmp .NotEq (.call "record_of" (.cons (.var 6) .nil)) (.call "_law_record" (.cons (.var 6) .nil))) (.cmp .NotEq (.call "written" (.cons (.var 6) .nil)) (.call "_law_form" (.cons (.var 6) .nil))))) (.cons (.ret (.cst (.bl false)))
      .nil) .nil)
      (.cons (.app (.idx (.var 3) (.cst (.int 0))) (.var 6))
      (.cons (.seti (.var 3) (.cst (.int 2)) (.bin .Add (.idx (.var 3) (.cst (.int 2))) (.call "_law_record" (.cons (.var 6) .nil))))
      (.cons (.app (.idx (.var 3) (.cst (.int 1))) (.blt .len (.cons (.idx (.var 3) (.cst (.int 2))) .nil)))
      .nil))))))) (.cons (.ife (.cmp .Eq (.var 5) (.cst (.int 3))) (.cons (.expr (.meth (.var 2) "make_safe" .nil))
      (.cons (.seti (.var 3) (.cst (.int 3)) (.blt .len (.cons (.idx (.var 3) (.cst (.int 2))) .nil)))
      .nil)) (.cons (.ife (.not (.call "_law_fallen" (.cons (.var 2) (.cons (.var 3) (.cons (.idx (.list (.cons (.cst (.int 0)) (.cons (.cst (.int 1)) (.cons (.call "_law_take" (.cons (.var 1) (.cons (.cst (.int 80)) .nil))) (.cons (.cst (.int 100000)) .nil))))) (.call "_law_take" (.cons (.var 1) (.cons (.cst (.int 4)) .nil)))) .nil))))) (.cons (.ret (.cst (.bl false)))
      .nil) .nil)
      .nil))
      .nil))
      (.cons (.ife (.or (.cmp .NotEq (.fld (.var 2) "text") (.idx (.var 3) (.cst (.int 2)))) (.or (.cmp .NotEq (.fld (.var 2) "safe") (.idx (.var 3) (.cst (.int 3)))) (.cmp .NotEq (.fld (.var 2) "count") (.blt .len (.cons (.idx (.var 3) (.cst (.int 0))) .nil))))) (.cons (.ret (.cst (.bl false)))
      .nil) .nil)
      .nil))))
      (.cons (.ret (.cmp .Eq (.call "check_of" (.cons (.idx (.var 3) (.cst (.int 2))) .nil)) (.call "_law_check" (.cons (.idx (.var 3) (.cst (.int 2))) .nil))))
      .nil)))))
def r__wall : DefR := ⟨⟨("_wall", none), "_wall", "_wall", defArgs (top 0), defBody (top 0), defScope (top 0), [], []⟩, ["k"], 1, b__wall⟩
def r_written : DefR := ⟨⟨("written", none), "written", "written", defArgs (top 4), defBody (top 4), defScope (top 4), [], []⟩, ["data", "parts", "part"], 1, b_written⟩
def r__number_at : DefR := ⟨⟨("_number_at", none), "_number_at", "_number_at", defArgs (top 5), defBody (top 5), defScope (top 5), [], []⟩, ["text", "at", "end"], 2, b__number_at⟩
def r__read : DefR := ⟨⟨("_read", none), "_read", "_read", defArgs (top 6), defBody (top 6), defScope (top 6), [], []⟩, ["text", "at", "sign", "found", "number", "end", "part"], 2, b__read⟩
def r_check_of : DefR := ⟨⟨("check_of", none), "check_of", "check_of", defArgs (top 7), defBody (top 7), defScope (top 7), [], []⟩, ["text", "number", "sign"], 1, b_check_of⟩
def r_record_of : DefR := ⟨⟨("record_of", none), "record_of", "record_of", defArgs (top 8), defBody (top 8), defScope (top 8), [], []⟩, ["batch", "body"], 1, b_record_of⟩
def r__head : DefR := ⟨⟨("_head", none), "_head", "_head", defArgs (top 9), defBody (top 9), defScope (top 9), [], []⟩, ["text", "at", "end", "last"], 3, b__head⟩
def r_record_at : DefR := ⟨⟨("record_at", none), "record_at", "record_at", defArgs (top 10), defBody (top 10), defScope (top 10), [], []⟩, ["text", "at", "head", "end", "body", "tail"], 2, b_record_at⟩
def r_Log_init : DefR := ⟨⟨("Log", some "__init__"), "__init__", "Log.__init__", defArgs (meth 11 0), defBody (meth 11 0), defScope (meth 11 0), [], []⟩, ["self"], 1, b_Log_init⟩
def r_Log_write : DefR := ⟨⟨("Log", some "write"), "write", "Log.write", defArgs (meth 11 1), defBody (meth 11 1), defScope (meth 11 1), [], []⟩, ["self", "batch"], 2, b_Log_write⟩
def r_Log_make_safe : DefR := ⟨⟨("Log", some "make_safe"), "make_safe", "Log.make_safe", defArgs (meth 11 2), defBody (meth 11 2), defScope (meth 11 2), [], []⟩, ["self"], 1, b_Log_make_safe⟩
def r_Log_safe_batches : DefR := ⟨⟨("Log", some "safe_batches"), "safe_batches", "Log.safe_batches", defArgs (meth 11 3), defBody (meth 11 3), defScope (meth 11 3), [], []⟩, ["self", "first"], 2, b_Log_safe_batches⟩
def r_Log_fall : DefR := ⟨⟨("Log", some "fall"), "fall", "Log.fall", defArgs (meth 11 4), defBody (meth 11 4), defScope (meth 11 4), [], []⟩, ["self", "kept"], 2, b_Log_fall⟩
def r_Log_recover : DefR := ⟨⟨("Log", some "recover"), "recover", "Log.recover", defArgs (meth 11 5), defBody (meth 11 5), defScope (meth 11 5), [], []⟩, ["self", "found", "at", "record"], 1, b_Log_recover⟩
def r__law_state : DefR := ⟨⟨("_law_state", none), "_law_state", "_law_state", defArgs (top 13), defBody (top 13), defScope (top 13), [], []⟩, ["script", "cells", "cell"], 1, b__law_state⟩
def r__law_take : DefR := ⟨⟨("_law_take", none), "_law_take", "_law_take", defArgs (top 14), defBody (top 14), defScope (top 14), [], []⟩, ["state", "most", "cells", "at", "cell", "mixed"], 2, b__law_take⟩
def r__law_bits : DefR := ⟨⟨("_law_bits", none), "_law_bits", "_law_bits", defArgs (top 15), defBody (top 15), defScope (top 15), [], []⟩, ["state", "count", "k"], 2, b__law_bits⟩
def r__law_change : DefR := ⟨⟨("_law_change", none), "_law_change", "_law_change", defArgs (top 16), defBody (top 16), defScope (top 16), [], []⟩, ["state", "intent", "record", "rows"], 1, b__law_change⟩
def r__law_form : DefR := ⟨⟨("_law_form", none), "_law_form", "_law_form", defArgs (top 17), defBody (top 17), defScope (top 17), [], []⟩, ["data", "part"], 1, b__law_form⟩
def r__law_check : DefR := ⟨⟨("_law_check", none), "_law_check", "_law_check", defArgs (top 18), defBody (top 18), defScope (top 18), [], []⟩, ["text", "number", "sign"], 1, b__law_check⟩
def r__law_record : DefR := ⟨⟨("_law_record", none), "_law_record", "_law_record", defArgs (top 19), defBody (top 19), defScope (top 19), [], []⟩, ["batch", "body"], 1, b__law_record⟩
def r__law_fallen : DefR := ⟨⟨("_law_fallen", none), "_law_fallen", "_law_fallen", defArgs (top 20), defBody (top 20), defScope (top 20), [], []⟩, ["log", "m", "kept", "whole", "end"], 3, b__law_fallen⟩
def r_law : DefR := ⟨⟨("law", none), "law", "law", defArgs (top 21), defBody (top 21), defScope (top 21), [], []⟩, ["script", "state", "log", "m", "turn", "kind", "batch", "kept", "k"], 1, b_law⟩
def conf : Conf := ⟨[r__wall, r_written, r__number_at, r__read, r_check_of, r_record_of, r__head, r_record_at, r_Log_init, r_Log_write, r_Log_make_safe, r_Log_safe_batches, r_Log_fall, r_Log_recover, r__law_state, r__law_take, r__law_bits, r__law_change, r__law_form, r__law_check, r__law_record, r__law_fallen, r_law], [("Log", ["text", "safe", "count", "safe_count"])], ["isinstance", "tuple", "str", "len", "int", "ord", "abs", "range", "list", "max", "repr"], [("DIGITS", (.one (.str "0123456789"))), ("MODULUS", (.one (.int 1000000007)))]⟩
end K50

set_option Elab.async false
set_option linter.all false
set_option maxRecDepth 100000
set_option maxHeartbeats 2000000
namespace K50
open PySem PySem.Spec PyProof.Rows L2 Z Tx
abbrev T : Prog := conf.prog
theorem at_written : T.defs.lookup (("written", none) : Str × Option Str) = some (⟨1, 3, b_written⟩ : Fd) := rfl
theorem at__number_at : T.defs.lookup (("_number_at", none) : Str × Option Str) = some (⟨2, 3, b__number_at⟩ : Fd) := rfl
theorem at__read : T.defs.lookup (("_read", none) : Str × Option Str) = some (⟨2, 7, b__read⟩ : Fd) := rfl
theorem at_check_of : T.defs.lookup (("check_of", none) : Str × Option Str) = some (⟨1, 3, b_check_of⟩ : Fd) := rfl
theorem at_record_of : T.defs.lookup (("record_of", none) : Str × Option Str) = some (⟨1, 2, b_record_of⟩ : Fd) := rfl
theorem at__head : T.defs.lookup (("_head", none) : Str × Option Str) = some (⟨3, 4, b__head⟩ : Fd) := rfl
theorem at_record_at : T.defs.lookup (("record_at", none) : Str × Option Str) = some (⟨2, 6, b_record_at⟩ : Fd) := rfl
theorem at_Log_init : T.defs.lookup (("Log", some "__init__") : Str × Option Str) = some (⟨1, 1, b_Log_init⟩ : Fd) := rfl
theorem at_Log_write : T.defs.lookup (("Log", some "write") : Str × Option Str) = some (⟨2, 2, b_Log_write⟩ : Fd) := rfl
theorem at_Log_make_safe : T.defs.lookup (("Log", some "make_safe") : Str × Option Str) = some (⟨1, 1, b_Log_make_safe⟩ : Fd) := rfl
theorem at_Log_safe_batches : T.defs.lookup (("Log", some "safe_batches") : Str × Option Str) = some (⟨2, 2, b_Log_safe_batches⟩ : Fd) := rfl
theorem at_Log_fall : T.defs.lookup (("Log", some "fall") : Str × Option Str) = some (⟨2, 2, b_Log_fall⟩ : Fd) := rfl
theorem at_Log_recover : T.defs.lookup (("Log", some "recover") : Str × Option Str) = some (⟨1, 4, b_Log_recover⟩ : Fd) := rfl
theorem at__law_state : T.defs.lookup (("_law_state", none) : Str × Option Str) = some (⟨1, 3, bState⟩ : Fd) := rfl
theorem at__law_take : T.defs.lookup (("_law_take", none) : Str × Option Str) = some (⟨2, 6, bTake⟩ : Fd) := rfl
theorem at__law_bits : T.defs.lookup (("_law_bits", none) : Str × Option Str) = some (⟨2, 3, b__law_bits⟩ : Fd) := rfl
theorem at__law_change : T.defs.lookup (("_law_change", none) : Str × Option Str) = some (⟨1, 4, b__law_change⟩ : Fd) := rfl
theorem at__law_form : T.defs.lookup (("_law_form", none) : Str × Option Str) = some (⟨1, 2, b__law_form⟩ : Fd) := rfl
theorem at__law_check : T.defs.lookup (("_law_check", none) : Str × Option Str) = some (⟨1, 3, b__law_check⟩ : Fd) := rfl
theorem at__law_record : T.defs.lookup (("_law_record", none) : Str × Option Str) = some (⟨1, 2, b__law_record⟩ : Fd) := rfl
theorem at__law_fallen : T.defs.lookup (("_law_fallen", none) : Str × Option Str) = some (⟨3, 5, b__law_fallen⟩ : Fd) := rfl
theorem at_law : T.defs.lookup (("law", none) : Str × Option Str) = some (⟨1, 9, b_law⟩ : Fd) := rfl
def written0 : Sm := (.ife (.iso false (.var 0) (.cst .non)) (.cons (.ret (.cst (.str "-"))) .nil) .nil)
def written1 : Sm := (.ife (.ist 0 (.var 0)) (.cons (.ret (.bin .Add (.blt .str (.cons (.var 0) .nil)) (.cst (.str ".")))) .nil) .nil)
def written2 : Sm := (.ife (.iss (.var 0)) (.cons (.ret (.bin .Add (.bin .Add (.blt .str (.cons (.blt .len (.cons (.var 0) .nil)) .nil)) (.cst (.str "\""))) (.var 0))) .nil) .nil)
def written3 : Sm := (.asg (.nm 1) (.join "" (.comp (.nm 2) (.seq (.var 0)) .nil (.call "written" (.cons (.var 2) .nil)))))
def written4 : Sm := (.ret (.ife (.ist 1 (.var 0)) (.bin .Add (.bin .Add (.cst (.str "(")) (.var 1)) (.cst (.str ")"))) (.bin .Add (.bin .Add (.cst (.str "[")) (.var 1)) (.cst (.str "]")))))
def writtenb : Sms := (.cons written0 (.cons written1 (.cons written2 (.cons written3 (.cons written4 .nil)))))
theorem written_eq : b_written = writtenb := rfl
def number_at0 : Sm := (.asg (.nm 2) (.var 1))
def number_at1b0 : Sm := (.aug 2 .Add (.cst (.int 1)))
def number_at1b : Sms := (.cons number_at1b0 .nil)
def number_at1 : Sm := (.while_ (.and (.cmp .NotEq (.sl (.var 0) (.cons (.var 2) .nil) (.cons (.bin .Add (.var 2) (.cst (.int 1))) .nil)) (.cst (.str ""))) (.cmp .In (.idx (.var 0) (.var 2)) (.glb "DIGITS" (.one (.str "0123456789"))))) number_at1b)
def number_at2 : Sm := (.ret (.tup (.cons (.blt .int (.cons (.sl (.var 0) (.cons (.var 1) .nil) (.cons (.var 2) .nil)) .nil)) (.cons (.var 2) .nil))))
def number_atb : Sms := (.cons number_at0 (.cons number_at1 (.cons number_at2 .nil)))
theorem number_at_eq : b__number_at = number_atb := rfl
def read0 : Sm := (.asg (.nm 2) (.idx (.var 0) (.var 1)))
def read1 : Sm := (.ife (.cmp .Eq (.var 2) (.cst (.str "-"))) (.cons (.ret (.tup (.cons (.cst .non) (.cons (.bin .Add (.var 1) (.cst (.int 1))) .nil)))) .nil) .nil)
def read2t0 : Sm := (.own 3 (.list .nil))
def read2t1 : Sm := (.aug 1 .Add (.cst (.int 1)))
def read2t2b0 : Sm := (.asg (.nms [6, 1]) (.call "_read" (.cons (.var 0) (.cons (.var 1) .nil))))
def read2t2b1 : Sm := (.app (.var 3) (.var 6))
def read2t2b : Sms := (.cons read2t2b0 (.cons read2t2b1 .nil))
def read2t2 : Sm := (.while_ (.cmp .NotIn (.idx (.var 0) (.var 1)) (.cst (.str ")]"))) read2t2b)
def read2t3 : Sm := (.ret (.tup (.cons (.ife (.cmp .Eq (.var 2) (.cst (.str "("))) (.blt .tuple (.cons (.var 3) .nil)) (.var 3)) (.cons (.bin .Add (.var 1) (.cst (.int 1))) .nil))))
def read2t : Sms := (.cons read2t0 (.cons read2t1 (.cons read2t2 (.frz 3 (.cons read2t3 .nil)))))
def read2 : Sm := (.ife (.cmp .In (.var 2) (.cst (.str "(["))) read2t .nil)
def read3 : Sm := (.asg (.nms [4, 5]) (.call "_number_at" (.cons (.var 0) (.cons (.var 1) .nil))))
def read4 : Sm := (.ife (.cmp .Eq (.idx (.var 0) (.var 5)) (.cst (.str "."))) (.cons (.ret (.tup (.cons (.var 4) (.cons (.bin .Add (.var 5) (.cst (.int 1))) .nil)))) .nil) .nil)
def read5 : Sm := (.ret (.tup (.cons (.sl (.var 0) (.cons (.bin .Add (.var 5) (.cst (.int 1))) .nil) (.cons (.bin .Add (.bin .Add (.var 5) (.cst (.int 1))) (.var 4)) .nil)) (.cons (.bin .Add (.bin .Add (.var 5) (.cst (.int 1))) (.var 4)) .nil))))
def readb : Sms := (.cons read0 (.cons read1 (.cons read2 (.cons read3 (.cons read4 (.cons read5 .nil))))))
theorem read_eq : b__read = readb := rfl
def check_of0 : Sm := (.asg (.nm 1) (.cst (.int 11)))
def check_of1b0 : Sm := (.asg (.nm 1) (.bin .Mod (.blt .int (.cons (.bin .Add (.bin .Mult (.var 1) (.cst (.int 31))) (.blt .ord (.cons (.var 2) .nil))) .nil)) (.glb "MODULUS" (.one (.int 1000000007)))))
def check_of1b : Sms := (.cons check_of1b0 .nil)
def check_of1 : Sm := (.for_ (.nm 2) (.seq (.var 0)) check_of1b)
def check_of2 : Sm := (.ret (.var 1))
def check_ofb : Sms := (.cons check_of0 (.cons check_of1 (.cons check_of2 .nil)))
theorem check_of_eq : b_check_of = check_ofb := rfl
def record_of0 : Sm := (.asg (.nm 1) (.call "written" (.cons (.var 0) .nil)))
def record_of1 : Sm := (.ret (.bin .Add (.bin .Add (.bin .Add (.bin .Add (.bin .Add (.blt .str (.cons (.blt .len (.cons (.var 1) .nil)) .nil)) (.cst (.str ":"))) (.var 1)) (.cst (.str ":"))) (.blt .str (.cons (.call "check_of" (.cons (.var 1) .nil)) .nil))) (.cst (.str ";"))))
def record_ofb : Sms := (.cons record_of0 (.cons record_of1 .nil))
theorem record_of_eq : b_record_of = record_ofb := rfl
def head0 : Sm := (.asg (.nm 3) (.var 1))
def head1b0 : Sm := (.aug 3 .Add (.cst (.int 1)))
def head1b : Sms := (.cons head1b0 .nil)
def head1 : Sm := (.while_ (.and (.cmp .NotEq (.sl (.var 0) (.cons (.var 3) .nil) (.cons (.bin .Add (.var 3) (.cst (.int 1))) .nil)) (.cst (.str ""))) (.cmp .In (.idx (.var 0) (.var 3)) (.glb "DIGITS" (.one (.str "0123456789"))))) head1b)
def head2 : Sm := (.ife (.or (.cmp .Eq (.var 3) (.var 1)) (.or (.cmp .NotEq (.sl (.var 0) (.cons (.var 3) .nil) (.cons (.bin .Add (.var 3) (.cst (.int 1))) .nil)) (.var 2)) (.and (.cmp .Eq (.idx (.var 0) (.var 1)) (.cst (.str "0"))) (.cmp .Gt (.var 3) (.bin .Add (.var 1) (.cst (.int 1))))))) (.cons (.ret (.cst .non)) .nil) .nil)
def head3 : Sm := (.ret (.tup (.cons (.blt .int (.cons (.sl (.var 0) (.cons (.var 1) .nil) (.cons (.var 3) .nil)) .nil)) (.cons (.bin .Add (.var 3) (.cst (.int 1))) .nil))))
def headb : Sms := (.cons head0 (.cons head1 (.cons head2 (.cons head3 .nil))))
theorem head_eq : b__head = headb := rfl
def record_at0 : Sm := (.asg (.nm 2) (.call "_head" (.cons (.var 0) (.cons (.var 1) (.cons (.cst (.str ":")) .nil)))))
def record_at1 : Sm := (.ife (.iso false (.var 2) (.cst .non)) (.cons (.ret (.cst .non)) .nil) .nil)
def record_at2 : Sm := (.asg (.nm 3) (.bin .Add (.idx (.var 2) (.cst (.int 1))) (.idx (.var 2) (.cst (.int 0)))))
def record_at3 : Sm := (.asg (.nm 4) (.sl (.var 0) (.cons (.idx (.var 2) (.cst (.int 1))) .nil) (.cons (.var 3) .nil)))
def record_at4 : Sm := (.asg (.nm 5) (.ife (.cmp .Eq (.sl (.var 0) (.cons (.var 3) .nil) (.cons (.bin .Add (.var 3) (.cst (.int 1))) .nil)) (.cst (.str ":"))) (.call "_head" (.cons (.var 0) (.cons (.bin .Add (.var 3) (.cst (.int 1))) (.cons (.cst (.str ";")) .nil)))) (.cst .non)))
def record_at5 : Sm := (.ife (.or (.iso false (.var 5) (.cst .non)) (.or (.cmp .Eq (.var 4) (.cst (.str ""))) (.cmp .NotEq (.idx (.var 5) (.cst (.int 0))) (.call "check_of" (.cons (.var 4) .nil))))) (.cons (.ret (.cst .non)) .nil) .nil)
def record_at6 : Sm := (.ret (.tup (.cons (.idx (.call "_read" (.cons (.var 4) (.cons (.cst (.int 0)) .nil))) (.cst (.int 0))) (.cons (.idx (.var 5) (.cst (.int 1))) .nil))))
def record_atb : Sms := (.cons record_at0 (.cons record_at1 (.cons record_at2 (.cons record_at3 (.cons record_at4 (.cons record_at5 (.cons record_at6 .nil)))))))
theorem record_at_eq : b_record_at = record_atb := rfl
def Log_init0 : Sm := (.setf (.var 0) "text" (.cst (.str "")))
def Log_init1 : Sm := (.setf (.var 0) "safe" (.cst (.int 0)))
def Log_init2 : Sm := (.setf (.var 0) "count" (.cst (.int 0)))
def Log_init3 : Sm := (.setf (.var 0) "safe_count" (.cst (.int 0)))
def Log_initb : Sms := (.cons Log_init0 (.cons Log_init1 (.cons Log_init2 (.cons Log_init3 .nil))))
theorem Log_init_eq : b_Log_init = Log_initb := rfl
def Log_write0 : Sm := (.setf (.var 0) "text" (.bin .Add (.fld (.var 0) "text") (.call "record_of" (.cons (.var 1) .nil))))
def Log_write1 : Sm := (.augf (.var 0) "count" .Add (.cst (.int 1)))
def Log_writeb : Sms := (.cons Log_write0 (.cons Log_write1 .nil))
theorem Log_write_eq : b_Log_write = Log_writeb := rfl
def Log_make_safe0 : Sm := (.setf (.var 0) "safe" (.blt .len (.cons (.fld (.var 0) "text") .nil)))
def Log_make_safe1 : Sm := (.setf (.var 0) "safe_count" (.fld (.var 0) "count"))
def Log_make_safeb : Sms := (.cons Log_make_safe0 (.cons Log_make_safe1 .nil))
theorem Log_make_safe_eq : b_Log_make_safe = Log_make_safeb := rfl
def Log_fall0 : Sm := (.setf (.var 0) "text" (.sl (.fld (.var 0) "text") .nil (.cons (.bin .Add (.fld (.var 0) "safe") (.var 1)) .nil)))
def Log_fallb : Sms := (.cons Log_fall0 .nil)
theorem Log_fall_eq : b_Log_fall = Log_fallb := rfl
def Log_recover0 : Sm := (.own 1 (.list .nil))
def Log_recover1 : Sm := (.asg (.nm 2) (.cst (.int 0)))
def Log_recover2 : Sm := (.asg (.nm 3) (.call "record_at" (.cons (.fld (.var 0) "text") (.cons (.var 2) .nil))))
def Log_recover3b0 : Sm := (.app (.var 1) (.idx (.var 3) (.cst (.int 0))))
def Log_recover3b1 : Sm := (.asg (.nm 2) (.idx (.var 3) (.cst (.int 1))))
def Log_recover3b2 : Sm := (.asg (.nm 3) (.call "record_at" (.cons (.fld (.var 0) "text") (.cons (.var 2) .nil))))
def Log_recover3b : Sms := (.cons Log_recover3b0 (.cons Log_recover3b1 (.cons Log_recover3b2 .nil)))
def Log_recover3 : Sm := (.while_ (.iso true (.var 3) (.cst .non)) Log_recover3b)
def Log_recover4 : Sm := (.setf (.var 0) "text" (.sl (.fld (.var 0) "text") .nil (.cons (.var 2) .nil)))
def Log_recover5 : Sm := (.setf (.var 0) "count" (.blt .len (.cons (.var 1) .nil)))
def Log_recover6 : Sm := (.expr (.meth (.var 0) "make_safe" .nil))
def Log_recover7 : Sm := (.ret (.var 1))
def Log_recoverb : Sms := (.cons Log_recover0 (.cons Log_recover1 (.cons Log_recover2 (.cons Log_recover3 (.cons Log_recover4 (.cons Log_recover5 (.cons Log_recover6 (.frz 1 (.cons Log_recover7 .nil)))))))))
theorem Log_recover_eq : b_Log_recover = Log_recoverb := rfl
def law_change0 : Sm := (.asg (.nm 1) (.tup (.cons (.cst (.str "intent")) (.cons (.cst (.int 7)) (.cons (.cst (.int 0)) (.cons (.cst (.int 5)) (.cons (.cst (.str "a")) (.cons (.tup (.cons (.cst (.int 10)) (.cons (.cst (.int 1)) .nil))) (.cons (.tup (.cons (.cst (.int 9)) (.cons (.cst (.int 0)) .nil))) (.cons (.list (.cons (.tup (.cons (.cst (.int 1)) (.cons (.cst (.str "x:;")) .nil))) (.cons (.tup (.cons (.cst (.int 2)) (.cons (.cst .non) .nil))) .nil))) .nil))))))))))
def law_change1 : Sm := (.asg (.nm 2) (.tup (.cons (.cst (.str "record")) (.cons (.cst (.int 7)) (.cons (.cst (.int 1)) (.cons (.cst (.str "staged")) (.cons (.cst (.int 5)) (.cons (.cst (.str "a")) (.cons (.tup (.cons (.cst (.int 12)) (.cons (.cst (.int 0)) .nil))) (.cons (.tup (.cons (.cst (.int 11)) (.cons (.cst (.int 0)) .nil))) (.cons (.list (.cons (.tup (.cons (.cst (.str "a")) (.cons (.cst (.int 1)) .nil))) (.cons (.tup (.cons (.cst (.str "b")) (.cons (.cst (.int 2)) .nil))) .nil))) .nil)))))))))))
def law_change2 : Sm := (.asg (.nm 3) (.list (.cons (.tup (.cons (.cst (.str "version")) (.cons (.cst (.str "a")) (.cons (.tup (.cons (.call "_law_take" (.cons (.var 0) (.cons (.cst (.int 1000)) .nil))) (.cons (.cst (.int 0)) .nil))) (.cons (.idx (.list (.cons (.cst (.str "")) (.cons (.cst (.str "v")) (.cons (.cst (.str "(2)")) (.cons (.cst .non) .nil))))) (.call "_law_take" (.cons (.var 0) (.cons (.cst (.int 4)) .nil)))) .nil))))) (.cons (.tup (.cons (.cst (.str "intent")) (.cons (.cst (.str "b")) (.cons (.var 1) .nil)))) .nil))))
def law_change3 : Sm := (.asg (.nm 3) (.bin .Add (.var 3) (.list (.cons (.tup (.cons (.cst (.str "intent")) (.cons (.cst (.str "b")) (.cons (.cst .non) .nil)))) (.cons (.tup (.cons (.cst (.str "record")) (.cons (.var 2) .nil))) (.cons (.tup (.cons (.cst (.str "bound")) (.cons (.call "_law_take" (.cons (.var 0) (.cons (.cst (.int 99999)) .nil))) .nil))) (.cons (.tup (.cons (.cst (.str "no version")) (.cons (.cst (.str "zz")) (.cons (.tup (.cons (.cst (.int 0)) (.cons (.cst (.int 999999)) .nil))) .nil)))) .nil)))))))
def law_change4 : Sm := (.ret (.idx (.var 3) (.call "_law_take" (.cons (.var 0) (.cons (.cst (.int 6)) .nil)))))
def law_changeb : Sms := (.cons law_change0 (.cons law_change1 (.cons law_change2 (.cons law_change3 (.cons law_change4 .nil)))))
theorem law_change_eq : b__law_change = law_changeb := rfl
def law_form0 : Sm := (.ife (.iso false (.var 0) (.cst .non)) (.cons (.ret (.cst (.str "-"))) .nil) .nil)
def law_form1 : Sm := (.ife (.iss (.var 0)) (.cons (.ret (.bin .Add (.bin .Add (.blt .str (.cons (.blt .len (.cons (.var 0) .nil)) .nil)) (.cst (.str "\""))) (.var 0))) .nil) .nil)
def law_form2 : Sm := (.ife (.ist 1 (.var 0)) (.cons (.ret (.bin .Add (.bin .Add (.cst (.str "(")) (.join "" (.comp (.nm 1) (.seq (.var 0)) .nil (.call "_law_form" (.cons (.var 1) .nil))))) (.cst (.str ")")))) .nil) .nil)
def law_form3 : Sm := (.ife (.ist 2 (.var 0)) (.cons (.ret (.bin .Add (.bin .Add (.cst (.str "[")) (.join "" (.comp (.nm 1) (.seq (.var 0)) .nil (.call "_law_form" (.cons (.var 1) .nil))))) (.cst (.str "]")))) .nil) .nil)
def law_form4 : Sm := (.ret (.bin .Add (.blt .str (.cons (.var 0) .nil)) (.cst (.str "."))))
def law_formb : Sms := (.cons law_form0 (.cons law_form1 (.cons law_form2 (.cons law_form3 (.cons law_form4 .nil)))))
theorem law_form_eq : b__law_form = law_formb := rfl
def law_check0 : Sm := (.asg (.nm 1) (.cst (.int 11)))
def law_check1b0 : Sm := (.asg (.nm 1) (.bin .Mod (.blt .int (.cons (.bin .Add (.bin .Mult (.var 1) (.cst (.int 31))) (.blt .ord (.cons (.var 2) .nil))) .nil)) (.cst (.int 1000000007))))
def law_check1b : Sms := (.cons law_check1b0 .nil)
def law_check1 : Sm := (.for_ (.nm 2) (.seq (.var 0)) law_check1b)
def law_check2 : Sm := (.ret (.var 1))
def law_checkb : Sms := (.cons law_check0 (.cons law_check1 (.cons law_check2 .nil)))
theorem law_check_eq : b__law_check = law_checkb := rfl
def law_record0 : Sm := (.asg (.nm 1) (.call "_law_form" (.cons (.var 0) .nil)))
def law_record1 : Sm := (.ret (.bin .Add (.bin .Add (.bin .Add (.bin .Add (.bin .Add (.blt .str (.cons (.blt .len (.cons (.var 1) .nil)) .nil)) (.cst (.str ":"))) (.var 1)) (.cst (.str ":"))) (.blt .str (.cons (.call "_law_check" (.cons (.var 1) .nil)) .nil))) (.cst (.str ";"))))
def law_recordb : Sms := (.cons law_record0 (.cons law_record1 .nil))
theorem law_record_eq : b__law_record = law_recordb := rfl
def law_fallen0 : Sm := (.expr (.meth (.var 0) "fall" (.cons (.var 2) .nil)))
def law_fallen1 : Sm := (.seti (.var 1) (.cst (.int 2)) (.sl (.idx (.var 1) (.cst (.int 2))) .nil (.cons (.bin .Add (.idx (.var 1) (.cst (.int 3))) (.var 2)) .nil)))
def law_fallen2 : Sm := (.asg (.nm 3) (.blt .len (.cons (.comp (.nm 4) (.seq (.idx (.var 1) (.cst (.int 1)))) (.cons (.cmp .LtE (.var 4) (.blt .len (.cons (.idx (.var 1) (.cst (.int 2))) .nil))) .nil) (.var 4)) .nil)))
def law_fallen3 : Sm := (.ife (.or (.cmp .NotEq (.fld (.var 0) "text") (.idx (.var 1) (.cst (.int 2)))) (.cmp .NotEq (.meth (.var 0) "recover" .nil) (.sl (.idx (.var 1) (.cst (.int 0))) .nil (.cons (.var 3) .nil)))) (.cons (.ret (.cst (.bl false))) .nil) .nil)
def law_fallen4 : Sm := (.seti (.var 1) (.cst (.int 0)) (.mref (.lsl (.idx (.var 1) (.cst (.int 0))) .nil (.cons (.var 3) .nil))))
def law_fallen5 : Sm := (.seti (.var 1) (.cst (.int 1)) (.mref (.lsl (.idx (.var 1) (.cst (.int 1))) .nil (.cons (.var 3) .nil))))
def law_fallen6 : Sm := (.seti (.var 1) (.cst (.int 2)) (.sl (.idx (.var 1) (.cst (.int 2))) .nil (.cons (.blt .max (.cons (.bin .Add (.idx (.var 1) (.cst (.int 1))) (.list (.cons (.cst (.int 0)) .nil))) .nil)) .nil)))
def law_fallen7 : Sm := (.seti (.var 1) (.cst (.int 3)) (.blt .len (.cons (.idx (.var 1) (.cst (.int 2))) .nil)))
def law_fallen8 : Sm := (.ret (.cst (.bl true)))
def law_fallenb : Sms := (.cons law_fallen0 (.cons law_fallen1 (.cons law_fallen2 (.cons law_fallen3 (.cons law_fallen4 (.cons law_fallen5 (.cons law_fallen6 (.cons law_fallen7 (.cons law_fallen8 .nil)))))))))
theorem law_fallen_eq : b__law_fallen = law_fallenb := rfl
def law0 : Sm := (.asg (.nm 1) (.call "_law_state" (.cons (.var 0) .nil)))
def law1 : Sm := (.asg (.nm 2) (.mk "Log" .nil))
def law2 : Sm := (.asg (.nm 3) (.mref (.list (.cons (.mref (.list .nil)) (.cons (.mref (.list .nil)) (.cons (.cst (.str "")) (.cons (.cst (.int 0)) .nil)))))))
def law3b0 : Sm := (.asg (.nm 5) (.call "_law_take" (.cons (.var 1) (.cons (.cst (.int 6)) .nil))))
def law3b1 : Sm := (.ife (.cmp .Lt (.var 5) (.cst (.int 3))) (.cons (.asg (.nm 6) (.comp (.nm 8) (.rng (.bin .Add (.cst (.int 1)) (.call "_law_take" (.cons (.var 1) (.cons (.cst (.int 3)) .nil))))) .nil (.call "_law_change" (.cons (.var 1) .nil)))) (.cons (.asg (.nm 7) (.blt .repr (.cons (.var 6) .nil))) (.cons (.expr (.meth (.var 2) "write" (.cons (.var 6) .nil))) (.cons (.ife (.or (.cmp .NotEq (.blt .repr (.cons (.var 6) .nil)) (.var 7)) (.or (.cmp .NotEq (.call "record_of" (.cons (.var 6) .nil)) (.call "_law_record" (.cons (.var 6) .nil))) (.cmp .NotEq (.call "written" (.cons (.var 6) .nil)) (.call "_law_form" (.cons (.var 6) .nil))))) (.cons (.ret (.cst (.bl false))) .nil) .nil) (.cons (.app (.idx (.var 3) (.cst (.int 0))) (.var 6)) (.cons (.seti (.var 3) (.cst (.int 2)) (.bin .Add (.idx (.var 3) (.cst (.int 2))) (.call "_law_record" (.cons (.var 6) .nil)))) (.cons (.app (.idx (.var 3) (.cst (.int 1))) (.blt .len (.cons (.idx (.var 3) (.cst (.int 2))) .nil))) .nil))))))) (.cons (.ife (.cmp .Eq (.var 5) (.cst (.int 3))) (.cons (.expr (.meth (.var 2) "make_safe" .nil)) (.cons (.seti (.var 3) (.cst (.int 3)) (.blt .len (.cons (.idx (.var 3) (.cst (.int 2))) .nil))) .nil)) (.cons (.ife (.not (.call "_law_fallen" (.cons (.var 2) (.cons (.var 3) (.cons (.idx (.list (.cons (.cst (.int 0)) (.cons (.cst (.int 1)) (.cons (.call "_law_take" (.cons (.var 1) (.cons (.cst (.int 80)) .nil))) (.cons (.cst (.int 100000)) .nil))))) (.call "_law_take" (.cons (.var 1) (.cons (.cst (.int 4)) .nil)))) .nil))))) (.cons (.ret (.cst (.bl false))) .nil) .nil) .nil)) .nil))
def law3b2 : Sm := (.ife (.or (.cmp .NotEq (.fld (.var 2) "text") (.idx (.var 3) (.cst (.int 2)))) (.or (.cmp .NotEq (.fld (.var 2) "safe") (.idx (.var 3) (.cst (.int 3)))) (.cmp .NotEq (.fld (.var 2) "count") (.blt .len (.cons (.idx (.var 3) (.cst (.int 0))) .nil))))) (.cons (.ret (.cst (.bl false))) .nil) .nil)
def law3b : Sms := (.cons law3b0 (.cons law3b1 (.cons law3b2 .nil)))
def law3 : Sm := (.for_ (.nm 4) (.rng (.call "_law_take" (.cons (.var 1) (.cons (.cst (.int 15)) .nil)))) law3b)
def law4 : Sm := (.ret (.cmp .Eq (.call "check_of" (.cons (.idx (.var 3) (.cst (.int 2))) .nil)) (.call "_law_check" (.cons (.idx (.var 3) (.cst (.int 2))) .nil))))
def lawb : Sms := (.cons law0 (.cons law1 (.cons law2 (.cons law3 (.cons law4 .nil)))))
theorem law_eq : b_law = lawb := rfl

mutual
def wr : D → List Nat
  | .non => [45]
  | .int i => dg i.toNat ++ [46]
  | .str x => dg x.length ++ (34 :: x.cps.toList)
  | .tup ds => 40 :: (wrs ds ++ [41])
  | .lst ds => 91 :: (wrs ds ++ [93])
  | .bl _ => [] | .dK _ => [] | .dT _ => [] | .ref _ => [] | .ctup _ => []
def wrs : List D → List Nat
  | [] => []
  | d :: ds => wr d ++ wrs ds
end
mutual
def okD : D → Bool
  | .non => true
  | .int i => decide (0 ≤ i) && decide (i < 1000000)
  | .str x => decide (x.length ≤ 100) && x.cps.toList.all fun c => decide (c < 128)
  | .tup ds => decide (ds.length ≤ 100) && okDs ds
  | .lst ds => decide (ds.length ≤ 100) && okDs ds
  | .bl _ => false | .dK _ => false | .dT _ => false | .ref _ => false | .ctup _ => false
def okDs : List D → Bool
  | [] => true
  | d :: ds => okD d && okDs ds
end
mutual
theorem wr_ok : ∀ d : D, okD d = true → okL (wr d)
  | .non, _ => by intro c hc; rw [wr] at hc; simp at hc; omega
  | .int i, _ => by
    rw [wr]
    exact (dg_ok _).app fun c hc => by simp at hc; omega
  | .str x, h => by
    rw [okD, Bool.and_eq_true, List.all_eq_true] at h
    rw [wr]
    refine (dg_ok _).app fun c hc => ?_
    rcases List.mem_cons.mp hc with rfl | hc
    · omega
    · simpa using h.2 c hc
  | .tup ds, h => by
    rw [okD, Bool.and_eq_true] at h
    have h := h.2
    rw [wr]
    intro c hc
    rcases List.mem_cons.mp hc with rfl | hc
    · omega
    · rcases List.mem_append.mp hc with z | z
      · exact wrs_ok ds h c z
      · simp at z; omega
  | .lst ds, h => by
    rw [okD, Bool.and_eq_true] at h
    have h := h.2
    rw [wr]
    intro c hc
    rcases List.mem_cons.mp hc with rfl | hc
    · omega
    · rcases List.mem_append.mp hc with z | z
      · exact wrs_ok ds h c z
      · simp at z; omega
  | .bl _, h => by rw [okD] at h; cases h
  | .dK _, h => by rw [okD] at h; cases h
  | .dT _, h => by rw [okD] at h; cases h
  | .ref _, h => by rw [okD] at h; cases h
  | .ctup _, h => by rw [okD] at h; cases h
theorem wrs_ok : ∀ ds : List D, okDs ds = true → okL (wrs ds)
  | [], _ => by intro c hc; rw [wrs] at hc; simp at hc
  | d :: ds, h => by
    rw [okDs, Bool.and_eq_true] at h
    rw [wrs]
    exact (wr_ok d h.1).app (wrs_ok ds h.2)
end
mutual
theorem plain_ok : ∀ d : D, okD d = true → d.plain = true
  | .non, _ => by rw [D.plain]
  | .int i, _ => by rw [D.plain]
  | .str x, h => by
    rw [okD, Bool.and_eq_true, List.all_eq_true] at h
    rw [D.plain, ← S_of x]
    exact okL_str fun c hc => by simpa using h.2 c hc
  | .tup ds, h => by rw [okD, Bool.and_eq_true] at h; rw [D.plain]; exact plains_ok ds h.2
  | .lst ds, h => by rw [okD, Bool.and_eq_true] at h; rw [D.plain]; exact plains_ok ds h.2
  | .bl _, h => by rw [okD] at h; cases h
  | .dK _, h => by rw [okD] at h; cases h
  | .dT _, h => by rw [okD] at h; cases h
  | .ref _, h => by rw [okD] at h; cases h
  | .ctup _, h => by rw [okD] at h; cases h
theorem plains_ok : ∀ ds : List D, okDs ds = true → plains ds = true
  | [], _ => by rw [plains]
  | d :: ds, h => by
    rw [okDs, Bool.and_eq_true] at h
    rw [plains, plain_ok d h.1, plains_ok ds h.2]
    rfl
end
theorem okDs_mem {ds : List D} (h : okDs ds = true) : ∀ d ∈ ds, okD d = true := by
  induction ds with
  | nil => intro d hd; simp at hd
  | cons x xs ih =>
    rw [okDs, Bool.and_eq_true] at h
    intro d hd
    rcases List.mem_cons.mp hd with rfl | hd
    · exact h.1
    · exact ih h.2 d hd
theorem wr_mem {ds : List D} : ∀ d ∈ ds, (wr d).length ≤ (wrs ds).length := by
  induction ds with
  | nil => intro d hd; simp at hd
  | cons x xs ih =>
    intro d hd
    rw [wrs, List.length_append]
    rcases List.mem_cons.mp hd with rfl | hd
    · omega
    · have := ih d hd; omega
theorem dp_mem {ds : List D} : ∀ d ∈ ds, d.dp ≤ dps ds := by
  induction ds with
  | nil => intro d hd; simp at hd
  | cons x xs ih =>
    intro d hd
    rw [dps]
    rcases List.mem_cons.mp hd with rfl | hd
    · exact Nat.le_max_left _ _
    · exact Nat.le_trans (ih d hd) (Nat.le_max_right _ _)
theorem big : (100000 : Nat) ≤ sizeLine := by decide
theorem join_S (ls : List (List Nat)) : Txt.join "" (ls.map S) = S ls.flatten := by
  have key : ∀ (ls : List (List Nat)) (a : List Nat), (ls.map S).foldl (fun acc p => acc ++ (Str.empty).cps ++ p.cps) a.toArray = (a ++ ls.flatten).toArray := by
    intro ls
    induction ls with
    | nil => intro a; simp
    | cons x xs ih =>
      intro a
      rw [List.map_cons, List.foldl_cons]
      have : a.toArray ++ (Str.empty).cps ++ (S x).cps = (a ++ x).toArray := by simp [S, Str.empty]
      rw [this, ih, List.flatten_cons, List.append_assoc]
  cases ls with
  | nil => rfl
  | cons x xs =>
    show Str.mk ((xs.map S).foldl _ (S x).cps) = _
    have e := key xs x
    show Str.mk ((xs.map S).foldl (fun acc p => acc ++ (Str.empty).cps ++ p.cps) x.toArray) = _
    rw [e]
    rfl
theorem wrs_flat (ds : List D) : wrs ds = (ds.map wr).flatten := by
  induction ds with
  | nil => rw [wrs]; rfl
  | cons d ds ih => rw [wrs, ih]; rfl
theorem strsOf_map (ls : List (List Nat)) : strsOf (ls.map fun l => D.str (S l)) = some (ls.map S) := by
  induction ls with
  | nil => rfl
  | cons l ls ih => rw [List.map_cons, strsOf, ih]; rfl
theorem joinD_wr {ds : List D} (h : (wrs ds).length ≤ 100000) : joinD "" (.lst (ds.map fun d => D.str (S (wr d)))) = some (.str (S (wrs ds))) := by
  have e : strsOf (ds.map fun d => D.str (S (wr d))) = some ((ds.map wr).map S) := by
    have e := strsOf_map (ds.map wr)
    rw [List.map_map] at e
    exact e
  show (strsOf (ds.map fun d => D.str (S (wr d)))).bind (fun ys => if (ys.map (·.length)).sum + ys.length * ("" : Str).length ≤ 16777216 then some (D.str (Txt.join "" ys)) else none) = _
  rw [e]
  simp only [Option.bind_some]
  have s : (((ds.map wr).map S).map fun x => x.length).sum = (wrs ds).length := by
    clear e h
    induction ds with
    | nil => rw [wrs]; rfl
    | cons d ds ih => rw [List.map_cons, List.map_cons, List.map_cons, List.sum_cons, ih, wrs, S_len, List.length_append]
  rw [s, if_pos (by show _ + _ * 0 ≤ 16777216; omega), join_S, ← wrs_flat]
theorem s_q : ("\"" : Str) = S [34] := by decide +kernel
theorem s_dot : ("." : Str) = S [46] := by decide +kernel
theorem s_o1 : ("(" : Str) = S [40] := by decide +kernel
theorem s_c1 : (")" : Str) = S [41] := by decide +kernel
theorem s_o2 : ("[" : Str) = S [91] := by decide +kernel
theorem s_c2 : ("]" : Str) = S [93] := by decide +kernel
theorem s_da : ("-" : Str) = S [45] := by decide +kernel
theorem s_co : (":" : Str) = S [58] := by decide +kernel
theorem s_se : (";" : Str) = S [59] := by decide +kernel
theorem s_0 : ("0" : Str) = S [48] := by decide +kernel
theorem s_e : ("" : Str) = S [] := by decide +kernel
section
variable {St : Store}
theorem written_ok : ∀ (N : Nat) (d : D), d.dp + 1 ≤ N → okD d = true → (wr d).length ≤ 50000 → runF T N ("written", none) [d] St = some (.str (S (wr d)), St)
  | 0, d, h, _, _ => by omega
  | N + 1, d, h, ok, hl => by
    have hp := plain_ok d ok
    have run : runF T (N + 1) ("written", none) [d] St = (evSs (Z.run T N) b_written [.fz d, .un, .un] St).bind outR := by rw [run_def at_written _ St rfl]; rfl
    have bg := big
    rw [run]
    have seqs : ∀ ds : List D, (d = .tup ds ∨ d = .lst ds) → evE (Z.run T N) (.comp (.nm 2) (.seq (.var 0)) .nil (.call "written" (.cons (.var 2) .nil))) [.fz d, .un, .un] St = some (.lst (ds.map fun d => D.str (S (wr d))), St) := fun ds hd => by
      have hok : okDs ds = true := by rcases hd with rfl | rfl <;> (rw [okD, Bool.and_eq_true] at ok; exact ok.2)
      have hdp : dps ds + 1 ≤ N := by rcases hd with rfl | rfl <;> (rw [D.dp] at h; omega)
      have hn : ds.length ≤ 1000 := by rcases hd with rfl | rfl <;> (rw [okD, Bool.and_eq_true, decide_eq_true_eq] at ok; omega)
      have hwl : (wrs ds).length + 2 ≤ 50000 := by rcases hd with rfl | rfl <;> (rw [wr] at hl; simp at hl; omega)
      refine (comp_maph (t := .nm 2) (ρ := [.fz d, .un, .un]) (w := .val d) (id : D → D) ds (fun d => D.str (S (wr d))) rfl (by rcases hd with rfl | rfl <;> rfl) ?_ (fun y hy => ⟨[.fz d, .un, .fz y], rfl, ?_⟩) hn)
      · rcases hd with rfl | rfl <;> simp -implicitDefEqProofs [hOf, itemsIn]
      · have hy1 := dp_mem y hy
        have hy2 := wr_mem y hy
        have e := written_ok N y (by omega) (okDs_mem hok y hy) (by omega)
        have cy : cont [.fz d, .un, .fz y] St (.val y) = some y := by
          have := plain_ok y (okDs_mem hok y hy)
          cases y <;> first | rfl | cases this
        simp -implicitDefEqProofs [hOf, cy, e]
    cases d with
    | non =>
      rw [wr, ← s_da]
      simp -implicitDefEqProofs [b_written, hOf, Cst.d]
      try rfl
    | int i =>
      rw [okD, Bool.and_eq_true, decide_eq_true_eq, decide_eq_true_eq] at ok
      obtain ⟨n, rfl⟩ : ∃ n : Nat, i = (n : Int) := ⟨i.toNat, by omega⟩
      have e := str_dg (n := n) (by omega)
      have l := dg_len (n := n) (by omega)
      have a := add_S (a := dg n) (b := [46]) (by simp; omega)
      rw [wr]
      have : ((n : Int)).toNat = n := by omega
      rw [this]
      have i0 : isoD (.int (n : Int)) false .non = some (.bl false) := rfl
      simp -implicitDefEqProofs [b_written, hOf, Cst.d, hp, i0, isTyD, e, s_dot, a]
      try rfl
    | str x =>
      have hx := S_of x
      generalize hl0 : x.cps.toList = l at hx
      subst hx
      rw [wr] at hl ⊢
      rw [hl0] at hl ⊢
      rw [S_len] at hl ⊢
      simp at hl
      have e := str_dg (n := l.length) (by omega)
      have ln := len_S (l := l) (by omega)
      have a1 := add_S (a := dg l.length) (b := [34]) (by simp; omega)
      have a2 := add_S (a := dg l.length ++ [34]) (b := l) (by simp; omega)
      have i0 : isoD (.str (S l)) false .non = some (.bl false) := rfl
      have e2 : dg l.length ++ 34 :: l = dg l.length ++ [34] ++ l := by simp
      rw [e2]
      simp -implicitDefEqProofs [b_written, hOf, Cst.d, hp, i0, isTyD, isStrD, e, ln, s_q, a1, a2]
      try rfl
    | tup ds =>
      have e := seqs ds (.inl rfl)
      rw [wr] at hl ⊢
      simp at hl
      have j := joinD_wr (ds := ds) (by omega)
      have a1 := add_S (a := [40]) (b := wrs ds) (by simp; omega)
      have a2 := add_S (a := 40 :: wrs ds) (b := [41]) (by simp; omega)
      have i0 : isoD (.tup ds) false .non = some (.bl false) := rfl
      have e2 : 40 :: (wrs ds ++ [41]) = [40] ++ wrs ds ++ [41] := by simp
      rw [e2]
      have cl : ∀ {ρ : Env'} {S : Store} {xs : List D}, cont ρ S (.val (.lst xs)) = some (.lst xs) := rfl
      have : b_written = .cons written0 (.cons written1 (.cons written2 (.cons written3 (.cons written4 .nil)))) := rfl
      rw [this]
      have q3 : evS (Z.run T N) written3 [.fz (.tup ds), .un, .un] St = some (.nxt [.fz (.tup ds), .fz (.str (S (wrs ds))), .un] St) := by
        unfold written3
        simp -implicitDefEqProofs [hOf, e, cl, j, bindT]
      simp -implicitDefEqProofs [written0, written1, written2, written4, q3, hOf, Cst.d, hp, i0, isTyD, isStrD, s_o1, s_c1, a1, a2]
      try rfl
    | lst ds =>
      have e := seqs ds (.inr rfl)
      rw [wr] at hl ⊢
      simp at hl
      have j := joinD_wr (ds := ds) (by omega)
      have a1 := add_S (a := [91]) (b := wrs ds) (by simp; omega)
      have a2 := add_S (a := 91 :: wrs ds) (b := [93]) (by simp; omega)
      have i0 : isoD (.lst ds) false .non = some (.bl false) := rfl
      have e2 : 91 :: (wrs ds ++ [93]) = [91] ++ wrs ds ++ [93] := by simp
      rw [e2]
      have cl : ∀ {ρ : Env'} {S : Store} {xs : List D}, cont ρ S (.val (.lst xs)) = some (.lst xs) := rfl
      have : b_written = .cons written0 (.cons written1 (.cons written2 (.cons written3 (.cons written4 .nil)))) := rfl
      rw [this]
      have q3 : evS (Z.run T N) written3 [.fz (.lst ds), .un, .un] St = some (.nxt [.fz (.lst ds), .fz (.str (S (wrs ds))), .un] St) := by
        unfold written3
        simp -implicitDefEqProofs [hOf, e, cl, j, bindT]
      simp -implicitDefEqProofs [written0, written1, written2, written4, q3, hOf, Cst.d, hp, i0, isTyD, isStrD, s_o2, s_c2, a1, a2]
      try rfl
    | bl b => rw [okD] at ok; cases ok
    | dK b => rw [okD] at ok; cases ok
    | dT b => rw [okD] at ok; cases ok
    | ref b => rw [okD] at ok; cases ok
    | ctup b => rw [okD] at ok; cases ok
end
end K50

set_option Elab.async false
set_option linter.all false
set_option maxRecDepth 100000
set_option maxHeartbeats 2000000
namespace K50
open PySem PySem.Spec PyProof.Rows L2 Z Tx
section
variable {St : Store} {N : Nat}
theorem form_ok : ∀ (N : Nat) (d : D), d.dp + 1 ≤ N → okD d = true → (wr d).length ≤ 50000 → runF T N ("_law_form", none) [d] St = some (.str (S (wr d)), St)
  | 0, d, h, _, _ => by omega
  | N + 1, d, h, ok, hl => by
    have hp := plain_ok d ok
    have run : runF T (N + 1) ("_law_form", none) [d] St = (evSs (Z.run T N) b__law_form [.fz d, .un] St).bind outR := by rw [run_def at__law_form _ St rfl]; rfl
    have bg := big
    rw [run]
    have seqs : ∀ ds : List D, (d = .tup ds ∨ d = .lst ds) → evE (Z.run T N) (.comp (.nm 1) (.seq (.var 0)) .nil (.call "_law_form" (.cons (.var 1) .nil))) [.fz d, .un] St = some (.lst (ds.map fun d => D.str (S (wr d))), St) := fun ds hd => by
      have hok : okDs ds = true := by rcases hd with rfl | rfl <;> (rw [okD, Bool.and_eq_true] at ok; exact ok.2)
      have hdp : dps ds + 1 ≤ N := by rcases hd with rfl | rfl <;> (rw [D.dp] at h; omega)
      have hn : ds.length ≤ 1000 := by rcases hd with rfl | rfl <;> (rw [okD, Bool.and_eq_true, decide_eq_true_eq] at ok; omega)
      have hwl : (wrs ds).length + 2 ≤ 50000 := by rcases hd with rfl | rfl <;> (rw [wr] at hl; simp at hl; omega)
      refine (comp_maph (t := .nm 1) (ρ := [.fz d, .un]) (w := .val d) (id : D → D) ds (fun d => D.str (S (wr d))) rfl (by rcases hd with rfl | rfl <;> rfl) ?_ (fun y hy => ⟨[.fz d, .fz y], rfl, ?_⟩) hn)
      · rcases hd with rfl | rfl <;> simp -implicitDefEqProofs [hOf, itemsIn]
      · have hy1 := dp_mem y hy
        have hy2 := wr_mem y hy
        have e := form_ok N y (by omega) (okDs_mem hok y hy) (by omega)
        have cy : cont [.fz d, .fz y] St (.val y) = some y := by
          have := plain_ok y (okDs_mem hok y hy)
          cases y <;> first | rfl | cases this
        simp -implicitDefEqProofs [hOf, cy, e]
    have cl : ∀ {ρ : Env'} {S : Store} {xs : List D}, cont ρ S (.val (.lst xs)) = some (.lst xs) := rfl
    cases d with
    | non =>
      rw [wr, ← s_da]
      simp -implicitDefEqProofs [b__law_form, hOf, Cst.d]
      try rfl
    | int i =>
      rw [okD, Bool.and_eq_true, decide_eq_true_eq, decide_eq_true_eq] at ok
      obtain ⟨n, rfl⟩ : ∃ n : Nat, i = (n : Int) := ⟨i.toNat, by omega⟩
      have e := str_dg (n := n) (by omega)
      have l := dg_len (n := n) (by omega)
      have a := add_S (a := dg n) (b := [46]) (by simp; omega)
      rw [wr]
      have : ((n : Int)).toNat = n := by omega
      rw [this]
      have i0 : isoD (.int (n : Int)) false .non = some (.bl false) := rfl
      simp -implicitDefEqProofs [b__law_form, hOf, Cst.d, hp, i0, isTyD, isStrD, e, s_dot, a]
      try rfl
    | str x =>
      have hx := S_of x
      generalize hl0 : x.cps.toList = l at hx
      subst hx
      rw [wr] at hl ⊢
      rw [hl0] at hl ⊢
      rw [S_len] at hl ⊢
      simp at hl
      have e := str_dg (n := l.length) (by omega)
      have ln := len_S (l := l) (by omega)
      have a1 := add_S (a := dg l.length) (b := [34]) (by simp; omega)
      have a2 := add_S (a := dg l.length ++ [34]) (b := l) (by simp; omega)
      have i0 : isoD (.str (S l)) false .non = some (.bl false) := rfl
      have e2 : dg l.length ++ 34 :: l = dg l.length ++ [34] ++ l := by simp
      rw [e2]
      simp -implicitDefEqProofs [b__law_form, hOf, Cst.d, hp, i0, isTyD, isStrD, e, ln, s_q, a1, a2]
      try rfl
    | tup ds =>
      have e := seqs ds (.inl rfl)
      rw [wr] at hl ⊢
      simp at hl
      have j := joinD_wr (ds := ds) (by omega)
      have a1 := add_S (a := [40]) (b := wrs ds) (by simp; omega)
      have a2 := add_S (a := 40 :: wrs ds) (b := [41]) (by simp; omega)
      have i0 : isoD (.tup ds) false .non = some (.bl false) := rfl
      simp -implicitDefEqProofs [b__law_form, hOf, Cst.d, hp, i0, isTyD, isStrD, e, cl, j, s_o1, s_c1, a1, a2]
      try rfl
    | lst ds =>
      have e := seqs ds (.inr rfl)
      rw [wr] at hl ⊢
      simp at hl
      have j := joinD_wr (ds := ds) (by omega)
      have a1 := add_S (a := [91]) (b := wrs ds) (by simp; omega)
      have a2 := add_S (a := 91 :: wrs ds) (b := [93]) (by simp; omega)
      have i0 : isoD (.lst ds) false .non = some (.bl false) := rfl
      simp -implicitDefEqProofs [b__law_form, hOf, Cst.d, hp, i0, isTyD, isStrD, e, cl, j, s_o2, s_c2, a1, a2]
      try rfl
    | bl b => rw [okD] at ok; cases ok
    | dK b => rw [okD] at ok; cases ok
    | dT b => rw [okD] at ok; cases ok
    | ref b => rw [okD] at ok; cases ok
    | ctup b => rw [okD] at ok; cases ok
/-! # check numbers -/
def ckS (n c : Nat) : Nat := (n * 31 + c) % 1000000007
def ck (l : List Nat) : Nat := l.foldl ckS 11
theorem ck_lt (l : List Nat) : ck l < 1000000007 := by
  unfold ck
  have : ∀ (l : List Nat) (a : Nat), a < 1000000007 → l.foldl ckS a < 1000000007 := by
    intro l
    induction l with
    | nil => intro a h; exact h
    | cons c l ih => intro a h; exact ih _ (Nat.mod_lt _ (by omega))
  exact this l 11 (by omega)
theorem ord_S (c : Nat) : bltD .ord [.str (S [c])] = some (.int (c : Int)) := rfl
theorem cm31 (a : Int) : CMul a 31 := .inr ⟨by decide, by decide⟩
theorem ck_int (n c : Nat) : ((n : Int) * 31 + (c : Int)) % 1000000007 = ((ckS n c : Nat) : Int) := by unfold ckS; omega
theorem items_S {l : List Nat} (h : l.length ≤ sizeLine) : itemsIn (.str (S l)) = some (l.map fun c => D.str (S [c])) := by
  show (if (S l).length ≤ sizeLine then some ((S l).cps.toList.map fun c => D.str ⟨#[c]⟩) else none) = _
  rw [S_len, if_pos h]
  show some (l.toArray.toList.map _) = _
  rw [List.toList_toArray]
  rfl
theorem foldl_snoc (p : List Nat) (x a : Nat) : (p ++ [x]).foldl ckS a = ckS (p.foldl ckS a) x := by rw [List.foldl_append]; rfl
theorem check_ok (l : List Nat) (hl : l.length ≤ 50000) : runF T (N + 1) ("check_of", none) [.str (S l)] St = some (.int (ck l : Int), St) := by
  have bg := big
  have it := items_S (l := l) (by omega)
  have run : runF T (N + 1) ("check_of", none) [.str (S l)] St = (evSs (Z.run T N) b_check_of [.fz (.str (S l)), .un, .un] St).bind outR := by rw [run_def at_check_of _ St rfl]; rfl
  have q0 : evS (Z.run T N) check_of0 [.fz (.str (S l)), .un, .un] St = some (.nxt [.fz (.str (S l)), .fz (.int 11), .un] St) := by
    simp -implicitDefEqProofs [check_of0, bindT, Cst.d]
  have hi : evI (Z.run T N) (.seq (.var 0)) [.fz (.str (S l)), .fz (.int 11), .un] St = some (.val (.str (S l)), l.map (fun c => D.str (S [c])), St) := by
    simp -implicitDefEqProofs [hOf, it]
  obtain ⟨ρ', S', e, rfl, x2, rfl⟩ := for_map (G := Z.run T N) (t := .nm 2) (b := check_of1b) (fun c => D.str (S [c])) l
    (fun p ρ S' => S' = St ∧ ∃ x2, ρ = [.fz (.str (S l)), .fz (.int ((p.foldl ckS 11 : Nat) : Int)), x2]) (fun n z => by cases z) hi ⟨rfl, .un, rfl⟩ (fun p x q hq ρ S2 hP => by
      obtain ⟨rfl, x2, rfl⟩ := hP
      refine ⟨_, _, S2, rfl, ?_, rfl, .fz (.str (S [x])), rfl⟩
      have e1 := ord_S x
      have i1 : ∀ y : Int, bltD .int [.int y] = some (.int y) := fun _ => rfl
      have e2 := ck_int (p.foldl ckS 11) x
      have e3 := cm31 ((p.foldl ckS 11 : Nat) : Int)
      rw [foldl_snoc]
      simp -implicitDefEqProofs [check_of1b, check_of1b0, hOf, bindT, Cst.d, GC.d, binD, e1, e3, i1, e2])
  have tb : b_check_of = .cons check_of0 (.cons check_of1 (.cons check_of2 .nil)) := rfl
  have q1 : evS (Z.run T N) check_of1 [.fz (.str (S l)), .fz (.int 11), .un] S' = some (.nxt [.fz (.str (S l)), .fz (.int ((l.foldl ckS 11 : Nat) : Int)), x2] S') := e
  rw [run, tb, seq1 q0, seq1 q1]
  simp -implicitDefEqProofs [check_of2]
  try rfl
theorem lcheck_ok (l : List Nat) (hl : l.length ≤ 50000) : runF T (N + 1) ("_law_check", none) [.str (S l)] St = some (.int (ck l : Int), St) := by
  have bg := big
  have it := items_S (l := l) (by omega)
  have run : runF T (N + 1) ("_law_check", none) [.str (S l)] St = (evSs (Z.run T N) b__law_check [.fz (.str (S l)), .un, .un] St).bind outR := by rw [run_def at__law_check _ St rfl]; rfl
  have q0 : evS (Z.run T N) law_check0 [.fz (.str (S l)), .un, .un] St = some (.nxt [.fz (.str (S l)), .fz (.int 11), .un] St) := by
    simp -implicitDefEqProofs [law_check0, bindT, Cst.d]
  have hi : evI (Z.run T N) (.seq (.var 0)) [.fz (.str (S l)), .fz (.int 11), .un] St = some (.val (.str (S l)), l.map (fun c => D.str (S [c])), St) := by
    simp -implicitDefEqProofs [hOf, it]
  obtain ⟨ρ', S', e, rfl, x2, rfl⟩ := for_map (G := Z.run T N) (t := .nm 2) (b := law_check1b) (fun c => D.str (S [c])) l
    (fun p ρ S' => S' = St ∧ ∃ x2, ρ = [.fz (.str (S l)), .fz (.int ((p.foldl ckS 11 : Nat) : Int)), x2]) (fun n z => by cases z) hi ⟨rfl, .un, rfl⟩ (fun p x q hq ρ S2 hP => by
      obtain ⟨rfl, x2, rfl⟩ := hP
      refine ⟨_, _, S2, rfl, ?_, rfl, .fz (.str (S [x])), rfl⟩
      have e1 := ord_S x
      have i1 : ∀ y : Int, bltD .int [.int y] = some (.int y) := fun _ => rfl
      have e2 := ck_int (p.foldl ckS 11) x
      have e3 := cm31 ((p.foldl ckS 11 : Nat) : Int)
      rw [foldl_snoc]
      simp -implicitDefEqProofs [law_check1b, law_check1b0, hOf, bindT, Cst.d, GC.d, binD, e1, e3, i1, e2])
  have tb : b__law_check = .cons law_check0 (.cons law_check1 (.cons law_check2 .nil)) := rfl
  have q1 : evS (Z.run T N) law_check1 [.fz (.str (S l)), .fz (.int 11), .un] S' = some (.nxt [.fz (.str (S l)), .fz (.int ((l.foldl ckS 11 : Nat) : Int)), x2] S') := e
  rw [run, tb, seq1 q0, seq1 q1]
  simp -implicitDefEqProofs [law_check2]
  try rfl
/-! # records -/
def rc (d : D) : List Nat := dg (wr d).length ++ 58 :: (wr d ++ 58 :: (dg (ck (wr d)) ++ [59]))
theorem rc_form (d : D) : rc d = dg (wr d).length ++ [58] ++ wr d ++ [58] ++ dg (ck (wr d)) ++ [59] := by simp [rc]
theorem rc_len (d : D) (hl : (wr d).length ≤ 20000) : (rc d).length ≤ (wr d).length + 30 := by
  have a := dg_len (n := (wr d).length) (by omega)
  have b := dg_len (n := ck (wr d)) (by have := ck_lt (wr d); omega)
  rw [rc_form]
  simp
  omega
theorem rc_ok (d : D) (ok : okD d = true) : okL (rc d) := by
  rw [rc_form]
  have h : ∀ c, c < 128 → okL [c] := fun c hc x hx => by simp at hx; omega
  exact (((((dg_ok _).app (h 58 (by omega))).app (wr_ok d ok)).app (h 58 (by omega))).app (dg_ok _)).app (h 59 (by omega))
theorem record_ok (d : D) (hd : d.dp + 1 ≤ N) (ok : okD d = true) (hl : (wr d).length ≤ 20000) : runF T (N + 1) ("record_of", none) [d] St = some (.str (S (rc d)), St) := by
  have bg := big
  have run : runF T (N + 1) ("record_of", none) [d] St = (evSs (Z.run T N) b_record_of [.fz d, .un] St).bind outR := by rw [run_def at_record_of _ St rfl]; rfl
  have e := written_ok (St := St) N d hd ok (by omega)
  obtain ⟨N', rfl⟩ : ∃ N', N = N' + 1 := ⟨N - 1, by omega⟩
  have e2 := check_ok (St := St) (N := N') (wr d) (by omega)
  have cd : ∀ {ρ : Env'} {S : Store}, cont ρ S (.val d) = some d := fun {ρ S} => by
    have := plain_ok d ok
    cases d <;> first | rfl | cases this
  rw [rc_form]
  have h1 := dg_len (n := (wr d).length) (by omega)
  have h2 := dg_len (n := ck (wr d)) (by have := ck_lt (wr d); omega)
  have h3 := str_dg (n := (wr d).length) (by omega)
  have h4 := str_dg (n := ck (wr d)) (by have := ck_lt (wr d); omega)
  generalize ck (wr d) = kk at *
  generalize wr d = w at *
  have ln := len_S (l := w) (by omega)
  have a1 := add_S (a := dg w.length) (b := [58]) (by simp; omega)
  have a2 := add_S (a := dg w.length ++ [58]) (b := w) (by simp; omega)
  have a3 := add_S (a := dg w.length ++ [58] ++ w) (b := [58]) (by simp; omega)
  have a4 := add_S (a := dg w.length ++ [58] ++ w ++ [58]) (b := dg kk) (by simp; omega)
  have a5 := add_S (a := dg w.length ++ [58] ++ w ++ [58] ++ dg kk) (b := [59]) (by simp; omega)
  rw [run]
  simp -implicitDefEqProofs [-List.append_assoc, -List.cons_append, -List.singleton_append, b_record_of, hOf, Cst.d, bindT, cd, e, e2, ln, h3, h4, s_co, s_se, a1, a2, a3, a4, a5]
  try rfl
theorem lrecord_ok (d : D) (hd : d.dp + 1 ≤ N) (ok : okD d = true) (hl : (wr d).length ≤ 20000) : runF T (N + 1) ("_law_record", none) [d] St = some (.str (S (rc d)), St) := by
  have bg := big
  have run : runF T (N + 1) ("_law_record", none) [d] St = (evSs (Z.run T N) b__law_record [.fz d, .un] St).bind outR := by rw [run_def at__law_record _ St rfl]; rfl
  have e := form_ok (St := St) N d hd ok (by omega)
  obtain ⟨N', rfl⟩ : ∃ N', N = N' + 1 := ⟨N - 1, by omega⟩
  have e2 := lcheck_ok (St := St) (N := N') (wr d) (by omega)
  have cd : ∀ {ρ : Env'} {S : Store}, cont ρ S (.val d) = some d := fun {ρ S} => by
    have := plain_ok d ok
    cases d <;> first | rfl | cases this
  rw [rc_form]
  have h1 := dg_len (n := (wr d).length) (by omega)
  have h2 := dg_len (n := ck (wr d)) (by have := ck_lt (wr d); omega)
  have h3 := str_dg (n := (wr d).length) (by omega)
  have h4 := str_dg (n := ck (wr d)) (by have := ck_lt (wr d); omega)
  generalize ck (wr d) = kk at *
  generalize wr d = w at *
  have ln := len_S (l := w) (by omega)
  have a1 := add_S (a := dg w.length) (b := [58]) (by simp; omega)
  have a2 := add_S (a := dg w.length ++ [58]) (b := w) (by simp; omega)
  have a3 := add_S (a := dg w.length ++ [58] ++ w) (b := [58]) (by simp; omega)
  have a4 := add_S (a := dg w.length ++ [58] ++ w ++ [58]) (b := dg kk) (by simp; omega)
  have a5 := add_S (a := dg w.length ++ [58] ++ w ++ [58] ++ dg kk) (b := [59]) (by simp; omega)
  rw [run]
  simp -implicitDefEqProofs [-List.append_assoc, -List.cons_append, -List.singleton_append, b__law_record, hOf, Cst.d, bindT, cd, e, e2, ln, h3, h4, s_co, s_se, a1, a2, a3, a4, a5]
  try rfl
end
end K50

set_option Elab.async false
set_option linter.all false
set_option maxRecDepth 100000
set_option maxHeartbeats 2000000
namespace K50
open PySem PySem.Spec PyProof.Rows L2 Z Tx
section
variable {St : Store} {N : Nat} {l : List Nat}
theorem one_S {e c : Nat} (h : l[e]? = some c) : (l.drop e).take (e + 1 - e) = [c] := by
  have he : e < l.length := (List.getElem?_eq_some_iff.mp h).1
  rw [List.drop_eq_getElem_cons he]
  have : e + 1 - e = 1 := by omega
  rw [this]
  rw [List.getElem?_eq_getElem he] at h
  cases h
  rfl
theorem none_S {e : Nat} (h : l[e]? = none) : (l.drop e).take (e + 1 - e) = [] := by
  rw [List.drop_of_length_le (List.getElem?_eq_none_iff.mp h)]
  simp
theorem sl1_S (hl : l.length ≤ 50000) (e : Nat) : slD (.str (S l)) (some (e : Int)) (some ((e : Int) + 1)) = some (.str (S ((l.drop e).take (e + 1 - e)))) := by
  have bg := big
  have := sl_S (l := l) (by omega) e (e + 1)
  have z : ((e + 1 : Nat) : Int) = (e : Int) + 1 := by omega
  rw [z] at this
  exact this
theorem ok1 {c : Nat} (h : c < 128) : okL [c] := fun x hx => by simp at hx; omega
theorem mem_of_get {e c : Nat} (h : l[e]? = some c) : c ∈ l := List.mem_of_getElem? h
theorem scan_number (ok : okL l) (hl : l.length ≤ 50000) (at_ : Nat) : evS (Z.run T N) number_at1 [.fz (.str (S l)), .fz (.int (at_ : Int)), .fz (.int (at_ : Int))] St = some (.nxt [.fz (.str (S l)), .fz (.int (at_ : Int)), .fz (.int ((at_ + ((l.drop at_).takeWhile dig).length : Nat) : Int))] St) := by
  have bg := big
  unfold number_at1
  rw [x_evS_while_]
  have wm : whMost = (2 ^ 60 - 1) + 1 := by decide
  rw [wm]
  refine whGo_scan (ρ := fun e => [.fz (.str (S l)), .fz (.int (at_ : Int)), .fz (.int (e : Int))]) (l := l) (fun e c h1 h2 => ?_) (fun e h => ?_) (fun e => ?_) _ at_ (by omega)
  · have s1 := sl1_S hl e
    rw [one_S h1, ] at s1
    have hc := ok c (mem_of_get h1)
    have e1 := ne_S (ok1 hc) (fun x hx => by simp at hx : okL [])
    have e2 := in_dig c hc
    have e3 := idx_S (by omega) h1
    rw [h2] at e2
    have z1 : (decide ([c] = [])) = false := by simp
    rw [z1] at e1
    simp -implicitDefEqProofs [hOf, Cst.d, GC.d, binD, ixO, s1, e1, e2, e3, s_e]
    try rfl
  · cases z : l[e]? with
    | none =>
      have s1 := sl1_S hl e
      rw [none_S z] at s1
      have e1 := ne_S (fun x hx => by simp at hx : okL []) (fun x hx => by simp at hx : okL [])
      simp -implicitDefEqProofs [hOf, Cst.d, GC.d, binD, ixO, s1, e1, s_e]
      try rfl
    | some c =>
      have h2 := h c z
      have s1 := sl1_S hl e
      rw [one_S z] at s1
      have hc := ok c (mem_of_get z)
      have e1 := ne_S (ok1 hc) (fun x hx => by simp at hx : okL [])
      have e2 := in_dig c hc
      have e3 := idx_S (by omega) z
      rw [h2] at e2
      have z1 : (decide ([c] = [])) = false := by simp
      rw [z1] at e1
      simp -implicitDefEqProofs [hOf, Cst.d, GC.d, binD, ixO, s1, e1, e2, e3, s_e]
      try rfl
  · simp -implicitDefEqProofs [number_at1b, number_at1b0, Cst.d]
theorem cut_ds (at_ : Nat) : (l.drop at_).take (at_ + ((l.drop at_).takeWhile dig).length - at_) = (l.drop at_).takeWhile dig := by
  have : at_ + ((l.drop at_).takeWhile dig).length - at_ = ((l.drop at_).takeWhile dig).length := by omega
  rw [this, tw_take]
theorem number_ok (ok : okL l) (hl : l.length ≤ 50000) (at_ : Nat) (h1 : (l.drop at_).takeWhile dig ≠ []) (h2 : ((l.drop at_).takeWhile dig).length ≤ 640) :
    runF T (N + 1) ("_number_at", none) [.str (S l), .int (at_ : Int)] St = some (.tup [.int (NumText.digitsVal ((l.drop at_).takeWhile dig) : Int), .int ((at_ + ((l.drop at_).takeWhile dig).length : Nat) : Int)], St) := by
  have bg := big
  have run : runF T (N + 1) ("_number_at", none) [.str (S l), .int (at_ : Int)] St = (evSs (Z.run T N) b__number_at [.fz (.str (S l)), .fz (.int (at_ : Int)), .un] St).bind outR := by rw [run_def at__number_at _ St rfl]; rfl
  have q0 : evS (Z.run T N) number_at0 [.fz (.str (S l)), .fz (.int (at_ : Int)), .un] St = some (.nxt [.fz (.str (S l)), .fz (.int (at_ : Int)), .fz (.int (at_ : Int))] St) := by
    simp -implicitDefEqProofs [number_at0, bindT]
  have q1 := scan_number (St := St) (N := N) ok hl at_
  have tb : b__number_at = .cons number_at0 (.cons number_at1 (.cons number_at2 .nil)) := rfl
  rw [run, tb, seq1 q0, seq1 q1]
  have s1 := sl_S (l := l) (by omega) at_ (at_ + ((l.drop at_).takeWhile dig).length)
  rw [cut_ds] at s1
  have s2 := int_ds (tw_all dig) h1 h2
  generalize hen : at_ + ((l.drop at_).takeWhile dig).length = en at *
  simp -implicitDefEqProofs [number_at2, hOf, ixO, s1, s2, len2]
  try rfl
/-! # heads -/
def headR (l : List Nat) (at_ ec : Nat) : Option (Nat × Nat) :=
  if (l.drop at_).takeWhile dig = [] then none
  else if l[at_ + ((l.drop at_).takeWhile dig).length]? = some ec then (if l[at_]? = some 48 ∧ 1 < ((l.drop at_).takeWhile dig).length then none else some (NumText.digitsVal ((l.drop at_).takeWhile dig), at_ + ((l.drop at_).takeWhile dig).length + 1))
  else none
def hdD : Option (Nat × Nat) → D
  | none => .non
  | some p => .tup [.int (p.1 : Int), .int (p.2 : Int)]
theorem scan_head (ok : okL l) (hl : l.length ≤ 50000) (at_ : Nat) (ec : D) : evS (Z.run T N) head1 [.fz (.str (S l)), .fz (.int (at_ : Int)), .fz ec, .fz (.int (at_ : Int))] St = some (.nxt [.fz (.str (S l)), .fz (.int (at_ : Int)), .fz ec, .fz (.int ((at_ + ((l.drop at_).takeWhile dig).length : Nat) : Int))] St) := by
  have bg := big
  unfold head1
  rw [x_evS_while_]
  have wm : whMost = (2 ^ 60 - 1) + 1 := by decide
  rw [wm]
  refine whGo_scan (ρ := fun e => [.fz (.str (S l)), .fz (.int (at_ : Int)), .fz ec, .fz (.int (e : Int))]) (l := l) (fun e c h1 h2 => ?_) (fun e h => ?_) (fun e => ?_) _ at_ (by omega)
  · have s1 := sl1_S hl e
    rw [one_S h1, ] at s1
    have hc := ok c (mem_of_get h1)
    have e1 := ne_S (ok1 hc) (fun x hx => by simp at hx : okL [])
    have e2 := in_dig c hc
    have e3 := idx_S (by omega) h1
    rw [h2] at e2
    have z1 : (decide ([c] = [])) = false := by simp
    rw [z1] at e1
    simp -implicitDefEqProofs [hOf, Cst.d, GC.d, binD, ixO, s1, e1, e2, e3, s_e]
    try rfl
  · cases z : l[e]? with
    | none =>
      have s1 := sl1_S hl e
      rw [none_S z] at s1
      have e1 := ne_S (fun x hx => by simp at hx : okL []) (fun x hx => by simp at hx : okL [])
      simp -implicitDefEqProofs [hOf, Cst.d, GC.d, binD, ixO, s1, e1, s_e]
      try rfl
    | some c =>
      have h2 := h c z
      have s1 := sl1_S hl e
      rw [one_S z] at s1
      have hc := ok c (mem_of_get z)
      have e1 := ne_S (ok1 hc) (fun x hx => by simp at hx : okL [])
      have e2 := in_dig c hc
      have e3 := idx_S (by omega) z
      rw [h2] at e2
      have z1 : (decide ([c] = [])) = false := by simp
      rw [z1] at e1
      simp -implicitDefEqProofs [hOf, Cst.d, GC.d, binD, ixO, s1, e1, e2, e3, s_e]
      try rfl
  · simp -implicitDefEqProofs [head1b, head1b0, Cst.d]
theorem head_ok (ok : okL l) (hl : l.length ≤ 50000) (at_ ec : Nat) (hec : ec < 128) (h2 : ((l.drop at_).takeWhile dig).length ≤ 640) :
    runF T (N + 1) ("_head", none) [.str (S l), .int (at_ : Int), .str (S [ec])] St = some (hdD (headR l at_ ec), St) := by
  have bg := big
  have run : runF T (N + 1) ("_head", none) [.str (S l), .int (at_ : Int), .str (S [ec])] St = (evSs (Z.run T N) b__head [.fz (.str (S l)), .fz (.int (at_ : Int)), .fz (.str (S [ec])), .un] St).bind outR := by rw [run_def at__head _ St rfl]; rfl
  have q0 : evS (Z.run T N) head0 [.fz (.str (S l)), .fz (.int (at_ : Int)), .fz (.str (S [ec])), .un] St = some (.nxt [.fz (.str (S l)), .fz (.int (at_ : Int)), .fz (.str (S [ec])), .fz (.int (at_ : Int))] St) := by
    simp -implicitDefEqProofs [head0, bindT]
  have q1 := scan_head (St := St) (N := N) ok hl at_ (.str (S [ec]))
  have tb : b__head = .cons head0 (.cons head1 (.cons head2 (.cons head3 .nil))) := rfl
  rw [run, tb, seq1 q0, seq1 q1]
  have s1 := sl_S (l := l) (by omega) at_ (at_ + ((l.drop at_).takeWhile dig).length)
  rw [cut_ds] at s1
  have all := tw_all (l := l.drop at_) dig
  have first : ∀ c ds, (l.drop at_).takeWhile dig = c :: ds → l[at_]? = some c := fun c ds e => by
    have h0 : (l.drop at_)[0]? = some c := by
      have : ((l.drop at_).takeWhile dig)[0]? = some c := by rw [e]; rfl
      have p := List.takeWhile_prefix (p := dig) (l := l.drop at_)
      obtain ⟨r, hr⟩ := p
      rw [← hr, List.getElem?_append_left (by rw [e]; simp)]
      exact this
    rw [List.getElem?_drop] at h0
    simpa using h0
  unfold headR
  generalize hds : (l.drop at_).takeWhile dig = ds at *
  have eqi : ∀ a b : Nat, cmpD .Eq (.int (a : Int)) (.int (b : Int)) = some (decide (a = b)) := fun a b => by
    rw [eq_ii]
    congr 1
    exact decide_eq_decide.mpr (by omega)
  cases ds with
  | nil =>
    rw [if_pos rfl]
    have e1 := eqi at_ at_
    simp only [List.length_nil, Nat.add_zero]
    have z : decide (at_ = at_) = true := by simp
    rw [z] at e1
    simp -implicitDefEqProofs [head2, hOf, Cst.d, e1]
    try rfl
  | cons c ds' =>
    rw [if_neg (by simp)]
    have s2 := int_ds all (by simp) h2
    have hf := first c ds' rfl
    have e1 := eqi (at_ + (c :: ds').length) at_
    have z : decide (at_ + (c :: ds').length = at_) = false := by simp
    rw [z] at e1
    have sl := sl1_S hl (at_ + (c :: ds').length)
    have h10 := gt_ii ((at_ + (c :: ds').length : Nat) : Int) ((at_ : Int) + 1)
    have hc := ok c (mem_of_get hf)
    have e5 := idx_S (by omega) hf
    have e6 := eq_S (ok1 hc) (ok1 (show 48 < 128 by omega))
    have cl : (c :: ds').length = ds'.length + 1 := rfl
    generalize hen : at_ + (c :: ds').length = en at *
    cases hz : l[en]? with
    | none =>
      rw [none_S hz] at sl
      have e4 := ne_S (fun x hx => by simp at hx : okL []) (ok1 hec)
      have z2 : decide (([] : List Nat) = [ec]) = false := by simp
      rw [z2] at e4
      rw [if_neg (by simp)]
      simp -implicitDefEqProofs [head2, hOf, Cst.d, binD, ixO, e1, sl, e4]
      try rfl
    | some x =>
      rw [one_S hz] at sl
      have hx := ok x (mem_of_get hz)
      have e4 := ne_S (ok1 hx) (ok1 hec)
      by_cases hxe : x = ec
      · subst hxe
        rw [if_pos rfl]
        have z2 : decide ([x] = [x]) = true := by simp
        rw [z2] at e4
        by_cases h48 : c = 48
        · subst h48
          have z3 : decide ([48] = [48]) = true := by simp
          rw [z3] at e6
          by_cases hlong : 1 < (48 :: ds').length
          · rw [if_pos ⟨hf, hlong⟩]
            have z4 : decide ((at_ : Int) + 1 < (en : Int)) = true := by
              rw [decide_eq_true_eq]; omega
            rw [z4] at h10
            simp -implicitDefEqProofs [head2, hOf, Cst.d, binD, ixO, e1, sl, e4, e5, s_0, e6, h10]
            try rfl
          · rw [if_neg (fun z => hlong z.2)]
            have z4 : decide ((at_ : Int) + 1 < (en : Int)) = false := by
              rw [decide_eq_false_iff_not]; omega
            rw [z4] at h10
            simp -implicitDefEqProofs [head2, head3, hOf, Cst.d, binD, ixO, e1, sl, e4, e5, s_0, e6, h10, s1, s2, len2]
            try rfl
        · rw [if_neg (fun z => h48 (by rw [hf] at z; exact Option.some.inj z.1))]
          have z3 : decide ([c] = [48]) = false := by simp [h48]
          rw [z3] at e6
          simp -implicitDefEqProofs [head2, head3, hOf, Cst.d, binD, ixO, e1, sl, e4, e5, s_0, e6, s1, s2, len2]
          try rfl
      · rw [if_neg (fun z => hxe (Option.some.inj z))]
        have z2 : decide ([x] = [ec]) = false := by simp [hxe]
        rw [z2] at e4
        simp -implicitDefEqProofs [head2, hOf, Cst.d, binD, ixO, e1, sl, e4]
        try rfl
end
end K50

set_option Elab.async false
set_option linter.all false
set_option maxRecDepth 100000
set_option maxHeartbeats 2000000
namespace K50
open PySem PySem.Spec PyProof.Rows L2 Z Tx
section
variable {St : Store} {N : Nat} {l : List Nat}
theorem get_at {at_ : Nat} {a rest : List Nat} (h : l.drop at_ = a ++ rest) {i : Nat} (hi : i < a.length) : l[at_ + i]? = a[i]? := by
  have : (l.drop at_)[i]? = (a ++ rest)[i]? := by rw [h]
  rw [List.getElem?_drop, List.getElem?_append_left hi] at this
  exact this
theorem drop_at {at_ : Nat} {a rest : List Nat} (h : l.drop at_ = a ++ rest) : l.drop (at_ + a.length) = rest := by
  rw [← List.drop_drop, h]
  simp
theorem tw_dg {at_ n c : Nat} {rest : List Nat} (h : l.drop at_ = dg n ++ (c :: rest)) (hc : dig c = false) : (l.drop at_).takeWhile dig = dg n := by
  rw [h]
  refine tw_app dig (dg_dig n) fun x hx => ?_
  simp at hx; subst hx; exact hc
theorem dg_first (n : Nat) : ∃ c r, dg n = c :: r ∧ 48 ≤ c ∧ c ≤ 57 := by
  cases h : dg n with
  | nil => exact absurd h (dg_pos n)
  | cons c r => exact ⟨c, r, rfl, dg_all n c (by rw [h]; simp)⟩
abbrev Er (l : List Nat) (at_ : Nat) (sg : Nat) (found : List D) (x6 : Z.Slot) : Env' := [.fz (.str (S l)), .fz (.int (at_ : Int)), .fz (.str (S [sg])), .own (.lst found), .un, .un, x6]
/-- what reading gives, for one level -/
def RdN (N : Nat) (l : List Nat) (St : Store) : Prop := ∀ (d : D) (at_ : Nat) (rest : List Nat), okD d = true → d.dp + 2 ≤ N → l.drop at_ = wr d ++ rest → runF T N ("_read", none) [.str (S l), .int (at_ : Int)] St = some (.tup [d, .int ((at_ + (wr d).length : Nat) : Int)], St)
theorem wr_first (d : D) (h : okD d = true) : ∃ c r, wr d = c :: r ∧ ¬ (c = 41 ∨ c = 93) := by
  cases d with
  | non => rw [wr]; exact ⟨45, [], rfl, by omega⟩
  | int i =>
    rw [wr]
    obtain ⟨c, r, e, h1, h2⟩ := dg_first i.toNat
    rw [e]
    exact ⟨c, r ++ [46], rfl, by omega⟩
  | str x =>
    rw [wr]
    obtain ⟨c, r, e, h1, h2⟩ := dg_first x.length
    rw [e]
    exact ⟨c, _, rfl, by omega⟩
  | tup ds => rw [wr]; exact ⟨40, _, rfl, by omega⟩
  | lst ds => rw [wr]; exact ⟨91, _, rfl, by omega⟩
  | bl b => rw [okD] at h; cases h
  | dK b => rw [okD] at h; cases h
  | dT b => rw [okD] at h; cases h
  | ref b => rw [okD] at h; cases h
  | ctup b => rw [okD] at h; cases h
theorem reads_ok (ok : okL l) (hl : l.length ≤ 50000) (hr : RdN N l St) (sg c : Nat) (hc : c = 41 ∨ c = 93) (rest : List Nat) : ∀ (ds acc : List D) (at_ : Nat) (x6 : Z.Slot) (m : Nat), okDs ds = true → dps ds + 2 ≤ N → l.drop at_ = wrs ds ++ (c :: rest) → ds.length < m → acc.length + ds.length ≤ 1000 →
    ∃ y6, whGo (fun ρ' S' => bnd (evE (Z.run T N) (.cmp .NotIn (.idx (.var 0) (.var 1)) (.cst (.str ")]"))) ρ' S') (k := ⟨fun x => mp (blOf x.1) (k := ⟨fun k => (k, x.2)⟩)⟩)) (fun ρ' S' => evSs (Z.run T N) read2t2b ρ' S') m (Er l at_ sg acc x6) St = some (.nxt (Er l (at_ + (wrs ds).length) sg (acc ++ ds) y6) St)
  | [], acc, at_, x6, 0, _, _, _, hm, _ => by omega
  | [], acc, at_, x6, m + 1, _, _, hd, hm, _ => by
    have bg := big
    rw [wrs] at hd ⊢
    have h0 : l[at_]? = some c := by
      have := get_at (a := [c]) (rest := rest) (at_ := at_) (by rw [hd]; rfl) (i := 0) (by simp)
      simpa using this
    have e3 := idx_S (by omega) h0
    have e4 := nin_close c (by omega)
    rw [decide_eq_true hc] at e4
    unfold whGo
    refine ⟨x6, ?_⟩
    simp -implicitDefEqProofs [hOf, Cst.d, e3, e4]
    try rfl
  | d :: ds, acc, at_, x6, 0, _, _, _, hm, _ => by omega
  | d :: ds, acc, at_, x6, m + 1, okk, hdp, hd, hm, ha => by
    have bg := big
    rw [okDs, Bool.and_eq_true] at okk
    rw [dps] at hdp
    rw [wrs, List.append_assoc] at hd
    have e := hr d at_ (wrs ds ++ (c :: rest)) okk.1 (by have := Nat.le_max_left d.dp (dps ds); omega) hd
    obtain ⟨c0, r0, ew, hn⟩ := wr_first d okk.1
    have h0 : l[at_]? = some c0 := by
      have := get_at hd (i := 0) (by rw [ew]; simp)
      rw [ew] at this
      simpa using this
    have hc0 := ok c0 (mem_of_get h0)
    have e3 := idx_S (by omega) h0
    have e4 := nin_close c0 hc0
    rw [decide_eq_false hn] at e4
    have hd2 := drop_at hd
    obtain ⟨y6, ih⟩ := reads_ok ok hl hr sg c hc rest ds (acc ++ [d]) (at_ + (wr d).length) (.fz d) m okk.2 (by have := Nat.le_max_right d.dp (dps ds); omega) hd2 (by simp at hm; omega) (by simp at ha ⊢; omega)
    refine ⟨y6, ?_⟩
    have el : at_ + (wrs (d :: ds)).length = at_ + (wr d).length + (wrs ds).length := by rw [wrs, List.length_append]; omega
    have ea : acc ++ d :: ds = acc ++ [d] ++ ds := by simp
    rw [el, ea, ← ih]
    have ln : acc.length < sizeLine := by simp at ha; omega
    have cd : ∀ {ρ : Env'} {S : Store}, cont ρ S (.val d) = some d := fun {ρ S} => by
      have := plain_ok d okk.1
      cases d <;> first | rfl | cases this
    generalize at_ + (wr d).length = a2 at *
    have q : evSs (Z.run T N) read2t2b (Er l at_ sg acc x6) St = some (.nxt (Er l a2 sg (acc ++ [d]) (.fz d)) St) := by
      simp -implicitDefEqProofs [read2t2b, read2t2b0, read2t2b1, hOf, Cst.d, e, bindT, isLst, putC, ln, cd]
      try rfl
    rw [whGo]
    have cnd : bnd (evE (Z.run T N) (.cmp .NotIn (.idx (.var 0) (.var 1)) (.cst (.str ")]"))) (Er l at_ sg acc x6) St) (k := ⟨fun x => mp (blOf x.1) (k := ⟨fun k => (k, x.2)⟩)⟩) = some (true, St) := by
      simp -implicitDefEqProofs [hOf, Cst.d, e3, e4]
      try rfl
    rw [cnd]
    simp only [Option.bind_some, if_true, q]
theorem read_ok (ok : okL l) (hl : l.length ≤ 50000) : ∀ N, RdN N l St
  | 0 => fun d at_ rest _ h _ => by omega
  | N + 1 => fun d at_ rest okk hdp hd => by
    have bg := big
    have run : runF T (N + 1) ("_read", none) [.str (S l), .int (at_ : Int)] St = (evSs (Z.run T N) b__read [.fz (.str (S l)), .fz (.int (at_ : Int)), .un, .un, .un, .un, .un] St).bind outR := by rw [run_def at__read _ St rfl]; rfl
    have tb : b__read = .cons read0 (.cons read1 (.cons read2 (.cons read3 (.cons read4 (.cons read5 .nil))))) := rfl
    rw [run, tb]
    have start : ∀ c0, l[at_]? = some c0 → evS (Z.run T N) read0 [.fz (.str (S l)), .fz (.int (at_ : Int)), .un, .un, .un, .un, .un] St = some (.nxt [.fz (.str (S l)), .fz (.int (at_ : Int)), .fz (.str (S [c0])), .un, .un, .un, .un] St) := fun c0 h0 => by
      have e3 := idx_S (by omega) h0
      simp -implicitDefEqProofs [read0, hOf, bindT, e3]
    have num : ∀ (n c : Nat) (r : List Nat), l.drop at_ = dg n ++ (c :: r) → dig c = false → n < 10 ^ 9 → ∃ c0, l[at_]? = some c0 ∧ evSs (Z.run T N) (.cons read0 (.cons read1 (.cons read2 (.cons read3 (.cons read4 (.cons read5 .nil)))))) [.fz (.str (S l)), .fz (.int (at_ : Int)), .un, .un, .un, .un, .un] St = evSs (Z.run T N) (.cons read4 (.cons read5 .nil)) [.fz (.str (S l)), .fz (.int (at_ : Int)), .fz (.str (S [c0])), .un, .fz (.int (n : Int)), .fz (.int ((at_ + (dg n).length : Nat) : Int)), .un] St := fun n c r h1 h2 h3 => by
      obtain ⟨c0, r0, ew, g1, g2⟩ := dg_first n
      have h0 : l[at_]? = some c0 := by
        have := get_at h1 (i := 0) (by rw [ew]; simp)
        rw [ew] at this
        simpa using this
      obtain ⟨N', rfl⟩ : ∃ N', N = N' + 1 := ⟨N - 1, by omega⟩
      have tw := tw_dg h1 h2
      have ld := dg_len (n := n) (by omega)
      have e := number_ok (St := St) (N := N') ok hl at_ (by rw [tw]; exact dg_pos n) (by rw [tw]; omega)
      rw [tw, dg_val] at e
      refine ⟨c0, h0, ?_⟩
      rw [seq1 (start c0 h0)]
      have hc0 := ok c0 (mem_of_get h0)
      have e1 := eq_S (ok1 hc0) (ok1 (show 45 < 128 by omega))
      have z1 : decide ([c0] = [45]) = false := by simp; omega
      rw [z1] at e1
      have e2 := in_open c0 hc0
      have z2 : decide (c0 = 40 ∨ c0 = 91) = false := by simp; omega
      rw [z2] at e2
      generalize at_ + (dg n).length = en at *
      have q1 : evS (Z.run T (N' + 1)) read1 [.fz (.str (S l)), .fz (.int (at_ : Int)), .fz (.str (S [c0])), .un, .un, .un, .un] St = some (.nxt [.fz (.str (S l)), .fz (.int (at_ : Int)), .fz (.str (S [c0])), .un, .un, .un, .un] St) := by
        simp -implicitDefEqProofs [read1, hOf, Cst.d, s_da, e1]
      have q2 : evS (Z.run T (N' + 1)) read2 [.fz (.str (S l)), .fz (.int (at_ : Int)), .fz (.str (S [c0])), .un, .un, .un, .un] St = some (.nxt [.fz (.str (S l)), .fz (.int (at_ : Int)), .fz (.str (S [c0])), .un, .un, .un, .un] St) := by
        simp -implicitDefEqProofs [read2, hOf, Cst.d, e2]
      have q3 : evS (Z.run T (N' + 1)) read3 [.fz (.str (S l)), .fz (.int (at_ : Int)), .fz (.str (S [c0])), .un, .un, .un, .un] St = some (.nxt [.fz (.str (S l)), .fz (.int (at_ : Int)), .fz (.str (S [c0])), .un, .fz (.int (n : Int)), .fz (.int (en : Int)), .un] St) := by
        simp -implicitDefEqProofs [read3, hOf, bindT, e]
        try rfl
      rw [seq1 q1, seq1 q2, seq1 q3]
    have lists : ∀ (o c : Nat) (ds : List D), (o = 40 ∨ o = 91) → (c = 41 ∨ c = 93) → okDs ds = true → ds.length ≤ 100 → dps ds + 2 ≤ N → l.drop at_ = o :: (wrs ds ++ (c :: rest)) → evSs (Z.run T N) (.cons read0 (.cons read1 (.cons read2 (.cons read3 (.cons read4 (.cons read5 .nil)))))) [.fz (.str (S l)), .fz (.int (at_ : Int)), .un, .un, .un, .un, .un] St = some (.ret (.tup [if o = 40 then .tup ds else .lst ds, .int ((at_ + 1 + (wrs ds).length + 1 : Nat) : Int)]) St) := fun o c ds ho hc h1 h2 h3 h4 => by
      have h0 : l[at_]? = some o := by
        have := get_at (a := [o]) (rest := wrs ds ++ (c :: rest)) (at_ := at_) (by rw [h4]; rfl) (i := 0) (by simp)
        simpa using this
      have hd2 := drop_at (a := [o]) (rest := wrs ds ++ (c :: rest)) (at_ := at_) (by rw [h4]; rfl)
      have hd2 : l.drop (at_ + 1) = wrs ds ++ (c :: rest) := hd2
      obtain ⟨y6, wh⟩ := reads_ok ok hl (read_ok ok hl N) o c hc rest ds [] (at_ + 1) .un whMost h1 h3 hd2 (Nat.lt_of_le_of_lt h2 (by decide)) (by simp; omega)
      rw [seq1 (start o h0)]
      have hc0 := ok o (mem_of_get h0)
      have e1 := eq_S (ok1 hc0) (ok1 (show 45 < 128 by omega))
      have z1 : decide ([o] = [45]) = false := by simp; omega
      rw [z1] at e1
      have e2 := in_open o hc0
      rw [decide_eq_true ho] at e2
      have q1 : evS (Z.run T N) read1 [.fz (.str (S l)), .fz (.int (at_ : Int)), .fz (.str (S [o])), .un, .un, .un, .un] St = some (.nxt [.fz (.str (S l)), .fz (.int (at_ : Int)), .fz (.str (S [o])), .un, .un, .un, .un] St) := by
        simp -implicitDefEqProofs [read1, hOf, Cst.d, s_da, e1]
      rw [seq1 q1]
      have w1 : evS (Z.run T N) read2t2 (Er l (at_ + 1) o [] .un) St = some (.nxt (Er l (at_ + 1 + (wrs ds).length) o ([] ++ ds) y6) St) := by
        unfold read2t2
        rw [x_evS_while_]
        exact wh
      rw [List.nil_append] at w1
      have t0 : evS (Z.run T N) read2t0 [.fz (.str (S l)), .fz (.int (at_ : Int)), .fz (.str (S [o])), .un, .un, .un, .un] St = some (.nxt [.fz (.str (S l)), .fz (.int (at_ : Int)), .fz (.str (S [o])), .own (.lst []), .un, .un, .un] St) := by
        have : (0 : Nat) ≤ sizeLine := by omega
        simp -implicitDefEqProofs [read2t0, isFresh]
      have t1 : evS (Z.run T N) read2t1 [.fz (.str (S l)), .fz (.int (at_ : Int)), .fz (.str (S [o])), .own (.lst []), .un, .un, .un] St = some (.nxt (Er l (at_ + 1) o [] .un) St) := by
        simp -implicitDefEqProofs [read2t1, Cst.d]
      have body : evSs (Z.run T N) read2t [.fz (.str (S l)), .fz (.int (at_ : Int)), .fz (.str (S [o])), .un, .un, .un, .un] St = evSs (Z.run T N) (.cons read2t3 .nil) [.fz (.str (S l)), .fz (.int ((at_ + 1 + (wrs ds).length : Nat) : Int)), .fz (.str (S [o])), .fz (.lst ds), .un, .un, y6] St := by
        have tb2 : read2t = .cons read2t0 (.cons read2t1 (.cons read2t2 (.frz 3 (.cons read2t3 .nil)))) := rfl
        rw [tb2, seq1 t0, seq1 t1, seq1 w1, x_evSs_frz]
        rfl
      have q2 : evS (Z.run T N) read2 [.fz (.str (S l)), .fz (.int (at_ : Int)), .fz (.str (S [o])), .un, .un, .un, .un] St = evSs (Z.run T N) read2t [.fz (.str (S l)), .fz (.int (at_ : Int)), .fz (.str (S [o])), .un, .un, .un, .un] St := by
        unfold read2
        simp -implicitDefEqProofs [hOf, Cst.d, e2]
      have e6 := eq_S (ok1 hc0) (ok1 (show 40 < 128 by omega))
      have fin : evSs (Z.run T N) (.cons read2t3 .nil) [.fz (.str (S l)), .fz (.int ((at_ + 1 + (wrs ds).length : Nat) : Int)), .fz (.str (S [o])), .fz (.lst ds), .un, .un, y6] St = some (.ret (.tup [if o = 40 then .tup ds else .lst ds, .int ((at_ + 1 + (wrs ds).length + 1 : Nat) : Int)]) St) := by
        generalize at_ + 1 + (wrs ds).length = en at *
        by_cases h40 : o = 40
        · subst h40
          have z3 : decide ([40] = [40]) = true := by simp
          rw [z3] at e6
          have tt : bltD .tuple [.lst ds] = some (.tup ds) := rfl
          simp -implicitDefEqProofs [read2t3, hOf, Cst.d, binD, s_o1, e6, tt, len2]
          try rfl
        · have z3 : decide ([o] = [40]) = false := by simp [h40]
          rw [z3] at e6
          rw [if_neg h40]
          simp -implicitDefEqProofs [read2t3, hOf, Cst.d, binD, s_o1, e6, len2]
          try rfl
      rw [x_evSs_cons, q2, body, fin]
      rfl
    cases d with
    | non =>
      rw [wr] at hd ⊢
      have h0 : l[at_]? = some 45 := by
        have := get_at hd (i := 0) (by simp)
        simpa using this
      have e1 := eq_S (ok1 (show 45 < 128 by omega)) (ok1 (show 45 < 128 by omega))
      have z1 : decide ([45] = [45]) = true := by simp
      rw [z1] at e1
      rw [seq1 (start 45 h0)]
      simp -implicitDefEqProofs [read1, hOf, Cst.d, binD, s_da, e1, len2]
      try rfl
    | int i =>
      rw [okD, Bool.and_eq_true, decide_eq_true_eq, decide_eq_true_eq] at okk
      obtain ⟨n, rfl⟩ : ∃ n : Nat, i = (n : Int) := ⟨i.toNat, by omega⟩
      rw [wr] at hd ⊢
      have tn : ((n : Int)).toNat = n := by omega
      rw [tn] at hd ⊢
      rw [List.append_assoc] at hd
      obtain ⟨c0, h0, e⟩ := num n 46 rest hd (by decide) (by omega)
      rw [e]
      have h46 : l[at_ + (dg n).length]? = some 46 := by
        have hd2 := drop_at hd
        have := get_at (a := [46]) (rest := rest) (at_ := at_ + (dg n).length) hd2 (i := 0) (by simp)
        simpa using this
      have e3 := idx_S (by omega) h46
      have e4 := eq_S (ok1 (show 46 < 128 by omega)) (ok1 (show 46 < 128 by omega))
      have z1 : decide ([46] = [46]) = true := by simp
      rw [z1] at e4
      have el : at_ + (dg n ++ [46]).length = at_ + (dg n).length + 1 := by simp; omega
      rw [el]
      generalize at_ + (dg n).length = en at *
      simp -implicitDefEqProofs [read4, hOf, Cst.d, binD, e3, s_dot, e4, len2]
      try rfl
    | str x =>
      have hx := S_of x
      generalize hl0 : x.cps.toList = xs at hx
      subst hx
      rw [okD, Bool.and_eq_true, decide_eq_true_eq, S_len] at okk
      rw [wr, hl0, S_len] at hd ⊢
      have hd1 : l.drop at_ = dg xs.length ++ (34 :: (xs ++ rest)) := by rw [hd]; simp
      obtain ⟨c0, h0, e⟩ := num xs.length 34 (xs ++ rest) hd1 (by decide) (by omega)
      rw [e]
      have hd2 := drop_at hd1
      have h34 : l[at_ + (dg xs.length).length]? = some 34 := by
        have := get_at (a := [34]) (rest := xs ++ rest) (at_ := at_ + (dg xs.length).length) hd2 (i := 0) (by simp)
        simpa using this
      have hd3 := drop_at (a := [34]) (rest := xs ++ rest) (at_ := at_ + (dg xs.length).length) hd2
      have hd3 : l.drop (at_ + (dg xs.length).length + 1) = xs ++ rest := hd3
      have e3 := idx_S (by omega) h34
      have e4 := eq_S (ok1 (show 34 < 128 by omega)) (ok1 (show 46 < 128 by omega))
      have z1 : decide ([34] = [46]) = false := by simp
      rw [z1] at e4
      have s1 := sl_S (l := l) (by omega) (at_ + (dg xs.length).length + 1) (at_ + (dg xs.length).length + 1 + xs.length)
      have el : at_ + (dg xs.length ++ 34 :: xs).length = at_ + (dg xs.length).length + 1 + xs.length := by simp; omega
      rw [el]
      generalize at_ + (dg xs.length).length = en at *
      rw [hd3] at s1
      have z2 : en + 1 + xs.length - (en + 1) = xs.length := by omega
      rw [z2, List.take_left, show ((en + 1 : Nat) : Int) = (en : Int) + 1 by omega, show ((en + 1 + xs.length : Nat) : Int) = (en : Int) + 1 + (xs.length : Int) by omega] at s1
      simp -implicitDefEqProofs [read4, read5, hOf, Cst.d, binD, ixO, e3, s_dot, e4, s1, len2]
      try rfl
    | tup ds =>
      rw [okD, Bool.and_eq_true, decide_eq_true_eq] at okk
      rw [D.dp] at hdp
      rw [wr] at hd ⊢
      have hd1 : l.drop at_ = 40 :: (wrs ds ++ (41 :: rest)) := by rw [hd]; simp
      rw [lists 40 41 ds (.inl rfl) (.inl rfl) okk.2 okk.1 (by omega) hd1]
      have el : at_ + (40 :: (wrs ds ++ [41])).length = at_ + 1 + (wrs ds).length + 1 := by simp; omega
      rw [el]
      rfl
    | lst ds =>
      rw [okD, Bool.and_eq_true, decide_eq_true_eq] at okk
      rw [D.dp] at hdp
      rw [wr] at hd ⊢
      have hd1 : l.drop at_ = 91 :: (wrs ds ++ (93 :: rest)) := by rw [hd]; simp
      rw [lists 91 93 ds (.inr rfl) (.inr rfl) okk.2 okk.1 (by omega) hd1]
      have el : at_ + (91 :: (wrs ds ++ [93])).length = at_ + 1 + (wrs ds).length + 1 := by simp; omega
      rw [el]
      rfl
    | bl b => rw [okD] at okk; cases okk
    | dK b => rw [okD] at okk; cases okk
    | dT b => rw [okD] at okk; cases okk
    | ref b => rw [okD] at okk; cases okk
    | ctup b => rw [okD] at okk; cases okk
end
end K50

set_option Elab.async false
set_option linter.all false
set_option maxRecDepth 100000
set_option maxHeartbeats 2000000
namespace K50
open PySem PySem.Spec PyProof.Rows L2 Z Tx
section
variable {St : Store} {N : Nat} {l : List Nat}
abbrev Ea (l : List Nat) (at_ : Nat) (x2 x3 x4 x5 : Z.Slot) : Env' := [.fz (.str (S l)), .fz (.int (at_ : Int)), x2, x3, x4, x5]
def Sm (l : List Nat) (at_ : Nat) : Prop := ((l.drop at_).takeWhile dig).length ≤ 640
theorem rat_run (at_ : Nat) : runF T (N + 1) ("record_at", none) [.str (S l), .int (at_ : Int)] St = (evSs (Z.run T N) (.cons record_at0 (.cons record_at1 (.cons record_at2 (.cons record_at3 (.cons record_at4 (.cons record_at5 (.cons record_at6 .nil))))))) (Ea l at_ .un .un .un .un) St).bind outR := by
  rw [run_def at_record_at _ St rfl]; rfl
theorem rat_none (ok : okL l) (hl : l.length ≤ 50000) (at_ : Nat) (hs : Sm l at_) (h : headR l at_ 58 = none) : runF T (N + 2) ("record_at", none) [.str (S l), .int (at_ : Int)] St = some (.non, St) := by
  have e := head_ok (St := St) (N := N) ok hl at_ 58 (by omega) hs
  rw [h] at e
  rw [rat_run]
  have i0 : isoD .non false .non = some (.bl true) := rfl
  simp -implicitDefEqProofs [record_at0, record_at1, hOf, Cst.d, bindT, s_co, e, hdD, i0]
  try rfl
theorem rat_two (ok : okL l) (hl : l.length ≤ 50000) (at_ n h1 : Nat) (hs : Sm l at_) (h : headR l at_ 58 = some (n, h1)) :
    evSs (Z.run T (N + 1)) (.cons record_at0 (.cons record_at1 (.cons record_at2 (.cons record_at3 (.cons record_at4 (.cons record_at5 (.cons record_at6 .nil))))))) (Ea l at_ .un .un .un .un) St =
      evSs (Z.run T (N + 1)) (.cons record_at4 (.cons record_at5 (.cons record_at6 .nil))) (Ea l at_ (.fz (.tup [.int (n : Int), .int (h1 : Int)])) (.fz (.int ((h1 + n : Nat) : Int))) (.fz (.str (S ((l.drop h1).take n)))) .un) St := by
  have bg := big
  have e := head_ok (St := St) (N := N) ok hl at_ 58 (by omega) hs
  rw [h] at e
  have i0 : isoD (.tup [.int (n : Int), .int (h1 : Int)]) false .non = some (.bl false) := rfl
  have j0 : idxD (.tup [.int (n : Int), .int (h1 : Int)]) (.int 0) = some (.int (n : Int)) := rfl
  have j1 : idxD (.tup [.int (n : Int), .int (h1 : Int)]) (.int 1) = some (.int (h1 : Int)) := rfl
  have s1 := sl_S (l := l) (by omega) h1 (h1 + n)
  have z : h1 + n - h1 = n := by omega
  rw [z] at s1
  have q0 : evS (Z.run T (N + 1)) record_at0 (Ea l at_ .un .un .un .un) St = some (.nxt (Ea l at_ (.fz (.tup [.int (n : Int), .int (h1 : Int)])) .un .un .un) St) := by
    simp -implicitDefEqProofs [record_at0, hOf, Cst.d, bindT, s_co, e, hdD]
  have q1 : evS (Z.run T (N + 1)) record_at1 (Ea l at_ (.fz (.tup [.int (n : Int), .int (h1 : Int)])) .un .un .un) St = some (.nxt (Ea l at_ (.fz (.tup [.int (n : Int), .int (h1 : Int)])) .un .un .un) St) := by
    simp -implicitDefEqProofs [record_at1, hOf, Cst.d, i0]
  have q2 : evS (Z.run T (N + 1)) record_at2 (Ea l at_ (.fz (.tup [.int (n : Int), .int (h1 : Int)])) .un .un .un) St = some (.nxt (Ea l at_ (.fz (.tup [.int (n : Int), .int (h1 : Int)])) (.fz (.int ((h1 + n : Nat) : Int))) .un .un) St) := by
    simp -implicitDefEqProofs [-idx_t, record_at2, hOf, Cst.d, bindT, binD, j0, j1]
  have q3 : evS (Z.run T (N + 1)) record_at3 (Ea l at_ (.fz (.tup [.int (n : Int), .int (h1 : Int)])) (.fz (.int ((h1 + n : Nat) : Int))) .un .un) St = some (.nxt (Ea l at_ (.fz (.tup [.int (n : Int), .int (h1 : Int)])) (.fz (.int ((h1 + n : Nat) : Int))) (.fz (.str (S ((l.drop h1).take n)))) .un) St) := by
    generalize h1 + n = en at *
    simp -implicitDefEqProofs [-idx_t, record_at3, hOf, Cst.d, bindT, ixO, j1, s1]
  rw [seq1 q0, seq1 q1, seq1 q2, seq1 q3]
theorem rat_cut (ok : okL l) (hl : l.length ≤ 50000) (at_ n h1 : Nat) (hs : Sm l at_) (h : headR l at_ 58 = some (n, h1)) (h2 : l[h1 + n]? = none) : runF T (N + 2) ("record_at", none) [.str (S l), .int (at_ : Int)] St = some (.non, St) := by
  have bg := big
  rw [rat_run, rat_two ok hl at_ n h1 hs h]
  have s1 := sl1_S hl (h1 + n)
  rw [none_S h2] at s1
  have e1 := eq_S (fun x hx => by simp at hx : okL []) (ok1 (show 58 < 128 by omega))
  have z1 : decide (([] : List Nat) = [58]) = false := by simp
  rw [z1] at e1
  have i0 : isoD .non false .non = some (.bl true) := rfl
  generalize h1 + n = en at *
  simp -implicitDefEqProofs [record_at4, record_at5, hOf, Cst.d, bindT, binD, ixO, s1, s_co, e1, i0]
  try rfl
theorem rat_tail (ok : okL l) (hl : l.length ≤ 50000) (at_ n h1 : Nat) (hs : Sm l at_) (h : headR l at_ 58 = some (n, h1)) (h2 : l[h1 + n]? = some 58) (hs2 : Sm l (h1 + n + 1)) (h3 : headR l (h1 + n + 1) 59 = none) : runF T (N + 2) ("record_at", none) [.str (S l), .int (at_ : Int)] St = some (.non, St) := by
  have bg := big
  rw [rat_run, rat_two ok hl at_ n h1 hs h]
  have s1 := sl1_S hl (h1 + n)
  rw [one_S h2] at s1
  have e1 := eq_S (ok1 (show 58 < 128 by omega)) (ok1 (show 58 < 128 by omega))
  have z1 : decide ([58] = [58]) = true := by simp
  rw [z1] at e1
  have e := head_ok (St := St) (N := N) ok hl (h1 + n + 1) 59 (by omega) hs2
  rw [h3] at e
  have i0 : isoD .non false .non = some (.bl true) := rfl
  have zc : ((h1 + n + 1 : Nat) : Int) = ((h1 + n : Nat) : Int) + 1 := by omega
  rw [zc] at e
  generalize h1 + n = en at *
  simp -implicitDefEqProofs [record_at4, record_at5, hOf, Cst.d, bindT, binD, ixO, s1, s_co, s_se, e1, e, hdD, i0]
  try rfl
theorem rat_whole (ok : okL l) (hl : l.length ≤ 50000) (at_ n h1 e2 : Nat) (hs : Sm l at_) (h : headR l at_ 58 = some (n, h1)) (h2 : l[h1 + n]? = some 58) (hs2 : Sm l (h1 + n + 1)) (d : D) (okd : okD d = true) (hb : (l.drop h1).take n = wr d) (h3 : headR l (h1 + n + 1) 59 = some (ck (wr d), e2)) (hN : d.dp + 2 ≤ N + 1) : runF T (N + 2) ("record_at", none) [.str (S l), .int (at_ : Int)] St = some (.tup [d, .int (e2 : Int)], St) := by
  have bg := big
  rw [rat_run, rat_two ok hl at_ n h1 hs h, hb]
  have s1 := sl1_S hl (h1 + n)
  rw [one_S h2] at s1
  have e1 := eq_S (ok1 (show 58 < 128 by omega)) (ok1 (show 58 < 128 by omega))
  have z1 : decide ([58] = [58]) = true := by simp
  rw [z1] at e1
  have e := head_ok (St := St) (N := N) ok hl (h1 + n + 1) 59 (by omega) hs2
  rw [h3] at e
  have okw := wr_ok d okd
  have lw : (wr d).length ≤ 50000 := by
    rw [← hb, List.length_take, List.length_drop]; omega
  have c1 := check_ok (St := St) (N := N) (wr d) lw
  have r1 := read_ok (St := St) okw lw (N + 1) d 0 [] okd hN (by simp)
  have r1 : runF T (N + 1) ("_read", none) [.str (S (wr d)), .int 0] St = some (.tup [d, .int ((0 + (wr d).length : Nat) : Int)], St) := r1
  obtain ⟨c0, r0, ew, _⟩ := wr_first d okd
  have e7 := eq_S okw (fun x hx => by simp at hx : okL [])
  have z7 : decide (wr d = []) = false := by rw [ew]; simp
  rw [z7] at e7
  have i0 : isoD (.tup [.int (ck (wr d) : Int), .int (e2 : Int)]) false .non = some (.bl false) := rfl
  have j0 : idxD (.tup [.int (ck (wr d) : Int), .int (e2 : Int)]) (.int 0) = some (.int (ck (wr d) : Int)) := rfl
  have j1 : idxD (.tup [.int (ck (wr d) : Int), .int (e2 : Int)]) (.int 1) = some (.int (e2 : Int)) := rfl
  have j2 : ∀ z, idxD (.tup [d, .int z]) (.int 0) = some d := fun z => rfl
  have ni : cmpD .NotEq (.int (ck (wr d) : Int)) (.int (ck (wr d) : Int)) = some false := by rw [ne_ii]; simp
  have zc : ((h1 + n + 1 : Nat) : Int) = ((h1 + n : Nat) : Int) + 1 := by omega
  rw [zc] at e
  have cd : ∀ {ρ : Env'} {S : Store}, cont ρ S (.val d) = some d := fun {ρ S} => by
    have := plain_ok d okd
    cases d <;> first | rfl | cases this
  generalize h1 + n = en at *
  simp -implicitDefEqProofs [-idx_t, record_at4, record_at5, record_at6, hOf, Cst.d, bindT, binD, ixO, s1, s_co, s_se, s_e, e1, e, hdD, i0, j0, j1, j2, e7, c1, ni, r1, cd, len2]
  try rfl
/-! # a record at a place, whole or cut -/
theorem head_dg {at_ n ec : Nat} {rest : List Nat} (h : l.drop at_ = dg n ++ (ec :: rest)) (hec : dig ec = false) : headR l at_ ec = some (n, at_ + (dg n).length + 1) := by
  have tw := tw_dg h hec
  unfold headR
  rw [tw, if_neg (dg_pos n)]
  have hd := drop_at h
  have hx : l[at_ + (dg n).length]? = some ec := by
    have := get_at (a := [ec]) (rest := rest) (at_ := at_ + (dg n).length) hd (i := 0) (by simp)
    simpa using this
  rw [if_pos hx, dg_val]
  rw [if_neg]
  rintro ⟨h1, h2⟩
  obtain ⟨c, r, ew, _⟩ := dg_first n
  have h0 : l[at_]? = some c := by
    have := get_at h (i := 0) (by rw [ew]; simp)
    rw [ew] at this
    simpa using this
  rw [h0] at h1
  cases h1
  have := dg_zero ew
  rw [ew, this] at h2
  simp at h2
theorem head_cut {at_ ec : Nat} {p : List Nat} (h : l.drop at_ = p) (hp : ∀ c ∈ p, dig c = true) : headR l at_ ec = none ∧ (l.drop at_).takeWhile dig = p := by
  have tw : (l.drop at_).takeWhile dig = p := by
    rw [h]
    have := tw_app (a := p) (b := []) dig hp (fun c hc => by cases hc)
    simpa using this
  refine ⟨?_, tw⟩
  unfold headR
  rw [tw]
  split
  · rfl
  · rename_i hn
    have : l[at_ + p.length]? = none := by
      rw [List.getElem?_eq_none_iff]
      have : (l.drop at_).length = p.length := by rw [h]
      rw [List.length_drop] at this
      have : 0 < p.length := List.length_pos_iff.mpr hn
      omega
    rw [this]
    rfl
theorem rat_rec (ok : okL l) (hl : l.length ≤ 50000) {at_ : Nat} {d : D} (okd : okD d = true) {rest : List Nat} (h : l.drop at_ = rc d ++ rest) (hN : d.dp + 2 ≤ N + 1) : runF T (N + 2) ("record_at", none) [.str (S l), .int (at_ : Int)] St = some (.tup [d, .int ((at_ + (rc d).length : Nat) : Int)], St) := by
  have lr : (rc d).length ≤ 50000 := by
    have : (l.drop at_).length = (rc d ++ rest).length := by rw [h]
    rw [List.length_drop, List.length_append] at this
    omega
  have lw : (wr d).length ≤ 50000 := by unfold rc at lr; simp at lr; omega
  have kl := ck_lt (wr d)
  have d1 := dg_len (n := (wr d).length) (by omega)
  have d2 := dg_len (n := ck (wr d)) (by omega)
  have ha : l.drop at_ = dg (wr d).length ++ (58 :: (wr d ++ 58 :: (dg (ck (wr d)) ++ 59 :: rest))) := by rw [h]; simp [rc]
  have h1 := head_dg ha (by decide)
  have hb := drop_at ha
  have hb : l.drop (at_ + (dg (wr d).length).length + 1) = wr d ++ (58 :: (dg (ck (wr d)) ++ 59 :: rest)) := drop_at (a := [58]) hb
  have hc := drop_at hb
  have h58 : l[at_ + (dg (wr d).length).length + 1 + (wr d).length]? = some 58 := by
    have := get_at (a := [58]) (rest := dg (ck (wr d)) ++ 59 :: rest) (at_ := at_ + (dg (wr d).length).length + 1 + (wr d).length) hc (i := 0) (by simp)
    simpa using this
  have he : l.drop (at_ + (dg (wr d).length).length + 1 + (wr d).length + 1) = dg (ck (wr d)) ++ (59 :: rest) := drop_at (a := [58]) hc
  have h3 := head_dg he (by decide)
  have hbody : (l.drop (at_ + (dg (wr d).length).length + 1)).take (wr d).length = wr d := by rw [hb, List.take_left]
  have e := rat_whole (St := St) (N := N) ok hl at_ _ _ _ (by unfold Sm; rw [tw_dg ha (by decide)]; omega) h1 h58 (by unfold Sm; rw [tw_dg he (by decide)]; omega) d okd hbody h3 hN
  have el : at_ + (rc d).length = at_ + (dg (wr d).length).length + 1 + (wr d).length + 1 + (dg (ck (wr d))).length + 1 := by unfold rc; simp; omega
  rw [el]
  exact e
theorem rat_part (ok : okL l) (hl : l.length ≤ 50000) {at_ : Nat} {d : D} (hw : (wr d).length ≤ 20000) {k : Nat} (hk : k < (rc d).length) (h : l.drop at_ = (rc d).take k) : runF T (N + 2) ("record_at", none) [.str (S l), .int (at_ : Int)] St = some (.non, St) := by
  have kl := ck_lt (wr d)
  have d1 := dg_len (n := (wr d).length) (by omega)
  have d2 := dg_len (n := ck (wr d)) (by omega)
  have lenr : (rc d).length = (dg (wr d).length).length + 1 + (wr d).length + 1 + (dg (ck (wr d))).length + 1 := by unfold rc; simp; omega
  by_cases c1 : k ≤ (dg (wr d).length).length
  · have hp : (rc d).take k = (dg (wr d).length).take k := by unfold rc; rw [List.take_append_of_le_length c1]
    rw [hp] at h
    obtain ⟨a, b⟩ := head_cut (ec := 58) h fun c hc => dg_dig _ c (List.mem_of_mem_take hc)
    exact rat_none ok hl at_ (by unfold Sm; rw [b, List.length_take]; omega) a
  · obtain ⟨j, rfl⟩ : ∃ j, k = (dg (wr d).length).length + 1 + j := ⟨k - ((dg (wr d).length).length + 1), by omega⟩
    have ha : l.drop at_ = dg (wr d).length ++ (58 :: (wr d ++ 58 :: (dg (ck (wr d)) ++ [59])).take j) := by
      rw [h]
      unfold rc
      rw [List.take_append]
      have z1 : (dg (wr d).length).length + 1 + j - (dg (wr d).length).length = j + 1 := by omega
      rw [List.take_of_length_le (by omega), z1, List.take_succ_cons]
    have h1 := head_dg ha (by decide)
    have hs : Sm l at_ := by unfold Sm; rw [tw_dg ha (by decide)]; omega
    have hb := drop_at ha
    have hb : l.drop (at_ + (dg (wr d).length).length + 1) = (wr d ++ 58 :: (dg (ck (wr d)) ++ [59])).take j := drop_at (a := [58]) hb
    by_cases c2 : j ≤ (wr d).length
    · refine rat_cut ok hl at_ _ _ hs h1 ?_
      rw [List.getElem?_eq_none_iff]
      have : (l.drop (at_ + (dg (wr d).length).length + 1)).length = ((wr d ++ 58 :: (dg (ck (wr d)) ++ [59])).take j).length := by rw [hb]
      rw [List.length_drop, List.length_take] at this
      omega
    · obtain ⟨i, rfl⟩ : ∃ i, j = (wr d).length + 1 + i := ⟨j - ((wr d).length + 1), by omega⟩
      have hc : l.drop (at_ + (dg (wr d).length).length + 1) = wr d ++ (58 :: (dg (ck (wr d)) ++ [59]).take i) := by
        rw [hb, List.take_append]
        have z1 : (wr d).length + 1 + i - (wr d).length = i + 1 := by omega
        rw [List.take_of_length_le (by omega), z1, List.take_succ_cons]
      have hd := drop_at hc
      have h58 : l[at_ + (dg (wr d).length).length + 1 + (wr d).length]? = some 58 := by
        have := get_at (a := [58]) (rest := (dg (ck (wr d)) ++ [59]).take i) (at_ := at_ + (dg (wr d).length).length + 1 + (wr d).length) hd (i := 0) (by simp)
        simpa using this
      have he : l.drop (at_ + (dg (wr d).length).length + 1 + (wr d).length + 1) = (dg (ck (wr d)) ++ [59]).take i := drop_at (a := [58]) hd
      have hi : i ≤ (dg (ck (wr d))).length := by omega
      rw [List.take_append_of_le_length hi] at he
      obtain ⟨a, b⟩ := head_cut (ec := 59) he fun c hc => dg_dig _ c (List.mem_of_mem_take hc)
      exact rat_tail ok hl at_ _ _ hs h1 h58 (by unfold Sm; rw [b, List.length_take]; omega) a
end
end K50

set_option Elab.async false
set_option linter.all false
set_option maxRecDepth 100000
set_option maxHeartbeats 2000000
namespace K50
open PySem PySem.Spec PyProof.Rows L2 Z Tx
/-! # what is whole -/
def txt (bs : List D) : List Nat := (bs.map rc).flatten
def endsL : List D → Nat → List Nat
  | [], _ => []
  | d :: ds, a => (a + (rc d).length) :: endsL ds (a + (rc d).length)
theorem txt_cons (d : D) (ds : List D) : txt (d :: ds) = rc d ++ txt ds := rfl
theorem txt_app (a b : List D) : txt (a ++ b) = txt a ++ txt b := by simp [txt]
theorem ends_ge : ∀ (ds : List D) (a : Nat), ∀ e ∈ endsL ds a, a ≤ e
  | [], a, e, h => by simp [endsL] at h
  | d :: ds, a, e, h => by
    unfold endsL at h
    rcases List.mem_cons.mp h with rfl | h
    · omega
    · have := ends_ge ds _ e h; omega
theorem ends_app : ∀ (ds : List D) (d : D) (a : Nat), endsL (ds ++ [d]) a = endsL ds a ++ [a + (txt ds).length + (rc d).length]
  | [], d, a => by simp [endsL, txt]
  | x :: ds, d, a => by
    rw [List.cons_append, endsL, ends_app ds d, endsL, txt_cons, List.length_append, List.cons_append]
    congr 3
    omega
theorem ends_len : ∀ (ds : List D) (a : Nat), (endsL ds a).length = ds.length
  | [], a => rfl
  | d :: ds, a => by rw [endsL, List.length_cons, ends_len ds, List.length_cons]
theorem rc_pos (d : D) : 0 < (rc d).length := by unfold rc; simp; omega
def wN (bs : List D) (a k : Nat) : Nat := ((endsL bs a).filter fun e => decide (e ≤ a + k)).length
theorem split_ok : ∀ (bs : List D) (a k : Nat), wN bs a k ≤ bs.length ∧ (endsL bs a).filter (fun e => decide (e ≤ a + k)) = (endsL bs a).take (wN bs a k) ∧ ∃ p, (txt bs).take k = txt (bs.take (wN bs a k)) ++ p ∧ (p = [] ∨ ∃ d j, d ∈ bs ∧ j < (rc d).length ∧ p = (rc d).take j)
  | [], a, k => ⟨Nat.le_refl _, rfl, [], by simp [wN, endsL, txt], .inl rfl⟩
  | d :: ds, a, k => by
    by_cases c : (rc d).length ≤ k
    · obtain ⟨h1, h2, p, h3, h4⟩ := split_ok ds (a + (rc d).length) (k - (rc d).length)
      have e : a + (rc d).length + (k - (rc d).length) = a + k := by omega
      have w : wN (d :: ds) a k = wN ds (a + (rc d).length) (k - (rc d).length) + 1 := by
        unfold wN
        rw [e, endsL, List.filter_cons, if_pos (by simp; omega), List.length_cons]
      rw [w]
      refine ⟨by simp; omega, ?_, p, ?_, ?_⟩
      · rw [e] at h2
        rw [endsL, List.filter_cons, if_pos (by simp; omega), h2, List.take_succ_cons]
      · rw [txt_cons, List.take_append, List.take_of_length_le c, h3, List.take_succ_cons, txt_cons, List.append_assoc]
      · rcases h4 with h | ⟨x, j, h5, h6, h7⟩
        · exact .inl h
        · exact .inr ⟨x, j, List.mem_cons_of_mem _ h5, h6, h7⟩
    · have w : (endsL (d :: ds) a).filter (fun e => decide (e ≤ a + k)) = [] := by
        rw [List.filter_eq_nil_iff]
        intro e he
        unfold endsL at he
        simp
        rcases List.mem_cons.mp he with rfl | he
        · omega
        · have := ends_ge ds _ e he; omega
      have w0 : wN (d :: ds) a k = 0 := by unfold wN; rw [w]; rfl
      rw [w0, w]
      refine ⟨Nat.zero_le _, rfl, (rc d).take k, ?_, .inr ⟨d, k, List.mem_cons_self, by omega, rfl⟩⟩
      rw [txt_cons, List.take_append_of_le_length (by omega)]
      simp [txt]
theorem ends_take : ∀ (bs : List D) (a w : Nat), (endsL bs a).take w = endsL (bs.take w) a
  | [], a, w => by simp [endsL]
  | d :: ds, a, 0 => by simp [endsL]
  | d :: ds, a, w + 1 => by rw [endsL, List.take_succ_cons, ends_take ds, List.take_succ_cons, endsL]
/-- the greatest end, or 0 -/
theorem ends_max : ∀ (bs : List D) (a x : Nat), x ≤ a → ((endsL bs a).foldl max x) = if bs = [] then x else a + (txt bs).length
  | [], a, x, h => by simp [endsL]
  | d :: ds, a, x, h => by
    rw [if_neg (by simp), endsL, List.foldl_cons]
    have m : max x (a + (rc d).length) = a + (rc d).length := by omega
    rw [m, ends_max ds _ _ (Nat.le_refl _), txt_cons, List.length_append]
    split
    · rename_i h; subst h; simp [txt]
    · omega
section
variable {St : Store} {N : Nat} {l : List Nat}
abbrev Ec (lg : Nat) (found : List D) (at_ : Nat) (x3 : Z.Slot) : Env' := [.fz (.ref lg), .own (.lst found), .fz (.int (at_ : Int)), x3]
def atD (bs : List D) (at_ : Nat) : D := match bs with
  | [] => .non
  | d :: _ => .tup [d, .int ((at_ + (rc d).length : Nat) : Int)]
def LgF (t : List Nat) (s c sc : Int) : List (Str × D) := [("text", .str (S t)), ("safe", .int s), ("count", .int c), ("safe_count", .int sc)]
theorem lf_text {t : List Nat} {s c sc : Int} : List.lookup ("text" : Str) (LgF t s c sc) = some (.str (S t)) := rfl
theorem lf_safe {t : List Nat} {s c sc : Int} : List.lookup ("safe" : Str) (LgF t s c sc) = some (.int s) := by
  have h : (("safe" : Str) == "text") = false := by decide +kernel
  unfold LgF
  rw [List.lookup, h]
  rfl
theorem lf_count {t : List Nat} {s c sc : Int} : List.lookup ("count" : Str) (LgF t s c sc) = some (.int c) := by
  have h : (("count" : Str) == "text") = false := by decide +kernel
  have h2 : (("count" : Str) == "safe") = false := by decide +kernel
  unfold LgF
  rw [List.lookup, h]
  simp only
  rw [List.lookup, h2]
  rfl
theorem lf_m {t : List Nat} {s c sc : Int} {x : Str} (h : x ∈ (["write", "make_safe", "fall", "recover"] : List Str)) : List.lookup x (LgF t s c sc) = none := by
  have a : ∀ y ∈ (["write", "make_safe", "fall", "recover"] : List Str), (y == "text") = false ∧ (y == "safe") = false ∧ (y == "count") = false ∧ (y == "safe_count") = false := by decide +kernel
  obtain ⟨h1, h2, h3, h4⟩ := a x h
  unfold LgF
  simp [List.lookup, h1, h2, h3, h4]
theorem fl (f : Str) (h : f ∈ (["text", "safe", "count", "safe_count"] : List Str)) : T.fld "Log" f = true := by
  have : ∀ f ∈ (["text", "safe", "count", "safe_count"] : List Str), T.fld "Log" f = true := by decide +kernel
  exact this f h
theorem n_ts : ¬ ("text" : Str) = "safe" := by decide +kernel
theorem n_tc : ¬ ("text" : Str) = "count" := by decide +kernel
theorem n_sc : ¬ ("safe" : Str) = "count" := by decide +kernel
theorem n_tx : ¬ ("text" : Str) = "safe_count" := by decide +kernel
theorem n_sx : ¬ ("safe" : Str) = "safe_count" := by decide +kernel
theorem n_cx : ¬ ("count" : Str) = "safe_count" := by decide +kernel
theorem pf_text {t t' : List Nat} {s c sc : Int} : setF.fput (LgF t s c sc) "text" (.str (S t')) = LgF t' s c sc := by simp [LgF, setF.fput]
theorem pf_safe {t : List Nat} {s s' c sc : Int} : setF.fput (LgF t s c sc) "safe" (.int s') = LgF t s' c sc := by simp [LgF, setF.fput, n_ts]
theorem pf_count {t : List Nat} {s c c' sc : Int} : setF.fput (LgF t s c sc) "count" (.int c') = LgF t s c' sc := by simp [LgF, setF.fput, n_tc, n_sc]
theorem pf_sc {t : List Nat} {s c sc sc' : Int} : setF.fput (LgF t s c sc) "safe_count" (.int sc') = LgF t s c sc' := by simp [LgF, setF.fput, n_tx, n_sx, n_cx]
theorem lf_len {t : List Nat} {s c sc : Int} : (LgF t s c sc).length < 1000 := by simp [LgF]
def Lg (St : Store) (lg : Nat) (t : List Nat) (s c sc : Int) : Prop := St[lg]? = some (.ins "Log" (LgF t s c sc))
theorem Lg.set {lg : Nat} {t t' : List Nat} {s c sc s' c' sc' : Int} (h : Lg St lg t s c sc) : Lg (St.set lg (.ins "Log" (LgF t' s' c' sc'))) lg t' s' c' sc' := List.getElem?_set_self (List.getElem?_eq_some_iff.mp h).1
theorem setF_text {lg : Nat} {t t' : List Nat} {s c sc : Int} (h : Lg St lg t s c sc) : setF (Z.run T N) St lg "text" (.str (S t')) = some (St.set lg (.ins "Log" (LgF t' s c sc))) := by
  unfold setF
  rw [show St[lg]? = some (.ins "Log" (LgF t s c sc)) from h]
  show (if (LgF t s c sc).length < 1000 ∧ T.fld "Log" "text" = true then _ else _) = _
  rw [if_pos ⟨lf_len, fl _ (by simp)⟩, pf_text]
theorem setF_safe {lg : Nat} {t : List Nat} {s s' c sc : Int} (h : Lg St lg t s c sc) : setF (Z.run T N) St lg "safe" (.int s') = some (St.set lg (.ins "Log" (LgF t s' c sc))) := by
  unfold setF
  rw [show St[lg]? = some (.ins "Log" (LgF t s c sc)) from h]
  show (if (LgF t s c sc).length < 1000 ∧ T.fld "Log" "safe" = true then _ else _) = _
  rw [if_pos ⟨lf_len, fl _ (by simp)⟩, pf_safe]
theorem setF_count {lg : Nat} {t : List Nat} {s c c' sc : Int} (h : Lg St lg t s c sc) : setF (Z.run T N) St lg "count" (.int c') = some (St.set lg (.ins "Log" (LgF t s c' sc))) := by
  unfold setF
  rw [show St[lg]? = some (.ins "Log" (LgF t s c sc)) from h]
  show (if (LgF t s c sc).length < 1000 ∧ T.fld "Log" "count" = true then _ else _) = _
  rw [if_pos ⟨lf_len, fl _ (by simp)⟩, pf_count]
theorem setF_sc {lg : Nat} {t : List Nat} {s c sc sc' : Int} (h : Lg St lg t s c sc) : setF (Z.run T N) St lg "safe_count" (.int sc') = some (St.set lg (.ins "Log" (LgF t s c sc'))) := by
  unfold setF
  rw [show St[lg]? = some (.ins "Log" (LgF t s c sc)) from h]
  show (if (LgF t s c sc).length < 1000 ∧ T.fld "Log" "safe_count" = true then _ else _) = _
  rw [if_pos ⟨lf_len, fl _ (by simp)⟩, pf_sc]
theorem make_safe_ok {lg : Nat} {t : List Nat} {s c sc : Int} (h : Lg St lg t s c sc) (hl : t.length ≤ 50000) : runF T (N + 1) ("Log", some "make_safe") [.ref lg] St = some (.non, St.set lg (.ins "Log" (LgF t (t.length : Int) c c))) := by
  have bg := big
  have run : runF T (N + 1) ("Log", some "make_safe") [.ref lg] St = (evSs (Z.run T N) (.cons Log_make_safe0 (.cons Log_make_safe1 .nil)) [.fz (.ref lg)] St).bind outR := by rw [run_def at_Log_make_safe _ St rfl]; rfl
  have ln := len_S (l := t) (by omega)
  have f1 := fl "text" (by simp)
  have f2 := fl "count" (by simp)
  have h' : St[lg]? = some (.ins "Log" (LgF t s c sc)) := h
  have e1 := setF_safe (N := N) (s' := (t.length : Int)) h
  have q0 : evS (Z.run T N) Log_make_safe0 [.fz (.ref lg)] St = some (.nxt [.fz (.ref lg)] (St.set lg (.ins "Log" (LgF t (t.length : Int) c sc)))) := by
    simp -implicitDefEqProofs [Log_make_safe0, hOf, h', lf_text, f1, ln, e1]
  have h2 := Lg.set (t' := t) (s' := (t.length : Int)) (c' := c) (sc' := sc) h
  have h2' : (St.set lg (.ins "Log" (LgF t (t.length : Int) c sc)))[lg]? = some (.ins "Log" (LgF t (t.length : Int) c sc)) := h2
  have e2 := setF_sc (N := N) (sc' := c) h2
  rw [List.set_set] at e2
  rw [run, seq1 q0]
  simp -implicitDefEqProofs [Log_make_safe1, hOf, h2', lf_count, f2, e2]
  try rfl
theorem fall_ok {lg : Nat} {t : List Nat} {s : Nat} {c sc : Int} (h : Lg St lg t s c sc) (hl : t.length ≤ 50000) (k : Nat) : runF T (N + 1) ("Log", some "fall") [.ref lg, .int (k : Int)] St = some (.non, St.set lg (.ins "Log" (LgF (t.take (s + k)) s c sc))) := by
  have bg := big
  have run : runF T (N + 1) ("Log", some "fall") [.ref lg, .int (k : Int)] St = (evSs (Z.run T N) (.cons Log_fall0 .nil) [.fz (.ref lg), .fz (.int (k : Int))] St).bind outR := by rw [run_def at_Log_fall _ St rfl]; rfl
  have f1 := fl "text" (by simp)
  have f2 := fl "safe" (by simp)
  have h' : St[lg]? = some (.ins "Log" (LgF t s c sc)) := h
  have s1 := sl0_S (l := t) (by omega) (s + k)
  rw [show ((s + k : Nat) : Int) = (s : Int) + (k : Int) by omega] at s1
  have e1 := setF_text (N := N) (t' := t.take (s + k)) h
  rw [run]
  simp -implicitDefEqProofs [Log_fall0, hOf, h', lf_text, lf_safe, f1, f2, binD, ixO, s1, e1]
  try rfl
theorem rec_loop (ok : okL l) (hl : l.length ≤ 50000) {lg : Nat} {s c sc : Int} (h : Lg St lg l s c sc) (p : List Nat) (hN : 10 ≤ N) (hp : ∀ a, l.drop a = p → runF T (N + 2) ("record_at", none) [.str (S l), .int (a : Int)] St = some (.non, St)) : ∀ (rest acc : List D) (at_ m : Nat), (∀ d ∈ rest, okD d = true ∧ d.dp ≤ 8) → l.drop at_ = txt rest ++ p → rest.length < m → acc.length + rest.length ≤ 1000 →
    whGo (fun ρ' S' => bnd (evE (Z.run T (N + 2)) (.iso true (.var 3) (.cst .non)) ρ' S') (k := ⟨fun x => mp (blOf x.1) (k := ⟨fun k => (k, x.2)⟩)⟩)) (fun ρ' S' => evSs (Z.run T (N + 2)) Log_recover3b ρ' S') m (Ec lg acc at_ (.fz (atD rest at_))) St = some (.nxt (Ec lg (acc ++ rest) (at_ + (txt rest).length) (.fz .non)) St)
  | [], acc, at_, 0, _, _, hm, _ => by omega
  | [], acc, at_, m + 1, _, _, _, _ => by
    unfold whGo
    have i0 : isoD .non true .non = some (.bl false) := rfl
    have z : at_ + (txt []).length = at_ := by simp [txt]
    rw [z, List.append_nil]
    simp -implicitDefEqProofs [atD, hOf, Cst.d, i0]
    try rfl
  | d :: rest, acc, at_, 0, _, _, hm, _ => by omega
  | d :: rest, acc, at_, m + 1, hd, ht, hm, ha => by
    have bg := big
    obtain ⟨okd, dpd⟩ := hd d List.mem_cons_self
    have ht : l.drop at_ = rc d ++ (txt rest ++ p) := by rw [ht, txt_cons, List.append_assoc]
    have ht2 := drop_at ht
    have next : runF T (N + 2) ("record_at", none) [.str (S l), .int ((at_ + (rc d).length : Nat) : Int)] St = some (atD rest (at_ + (rc d).length), St) := by
      cases rest with
      | nil => exact hp _ (by rw [ht2]; rfl)
      | cons x xs =>
        obtain ⟨okx, dpx⟩ := hd x (by simp)
        exact rat_rec ok hl okx (rest := txt xs ++ p) (by rw [ht2, txt_cons, List.append_assoc]) (by omega)
    have ih := rec_loop ok hl h p hN hp rest (acc ++ [d]) (at_ + (rc d).length) m (fun x hx => hd x (List.mem_cons_of_mem _ hx)) ht2 (by simp at hm; omega) (by simp at ha ⊢; omega)
    have el : at_ + (txt (d :: rest)).length = at_ + (rc d).length + (txt rest).length := by rw [txt_cons, List.length_append]; omega
    have ea : acc ++ d :: rest = acc ++ [d] ++ rest := by simp
    rw [el, ea, ← ih]
    have ln : acc.length < sizeLine := by simp at ha; omega
    have cd : ∀ {ρ : Env'} {S : Store}, cont ρ S (.val d) = some d := fun {ρ S} => by
      have := plain_ok d okd
      cases d <;> first | rfl | cases this
    have f1 := fl "text" (by simp)
    have h' : St[lg]? = some (.ins "Log" (LgF l s c sc)) := h
    have ed : atD (d :: rest) at_ = .tup [d, .int ((at_ + (rc d).length : Nat) : Int)] := rfl
    generalize at_ + (rc d).length = a2 at *
    have j0 : idxD (.tup [d, .int (a2 : Int)]) (.int 0) = some d := rfl
    have j1 : idxD (.tup [d, .int (a2 : Int)]) (.int 1) = some (.int (a2 : Int)) := rfl
    have i0 : isoD (.tup [d, .int (a2 : Int)]) true .non = some (.bl true) := rfl
    have q : evSs (Z.run T (N + 2)) Log_recover3b (Ec lg acc at_ (.fz (.tup [d, .int (a2 : Int)]))) St = some (.nxt (Ec lg (acc ++ [d]) a2 (.fz (atD rest a2))) St) := by
      simp -implicitDefEqProofs [-idx_t, Log_recover3b, Log_recover3b0, Log_recover3b1, Log_recover3b2, hOf, Cst.d, j0, j1, isLst, putC, ln, cd, bindT, h', lf_text, f1, next]
      try rfl
    rw [whGo]
    have cnd : bnd (evE (Z.run T (N + 2)) (.iso true (.var 3) (.cst .non)) (Ec lg acc at_ (.fz (.tup [d, .int (a2 : Int)]))) St) (k := ⟨fun x => mp (blOf x.1) (k := ⟨fun k => (k, x.2)⟩)⟩) = some (true, St) := by
      simp -implicitDefEqProofs [hOf, Cst.d, i0]
      try rfl
    show (Option.bind (bnd (evE (Z.run T (N + 2)) (.iso true (.var 3) (.cst .non)) (Ec lg acc at_ (.fz (atD (d :: rest) at_))) St) (k := ⟨fun x => mp (blOf x.1) (k := ⟨fun k => (k, x.2)⟩)⟩)) _) = _
    rw [ed, cnd]
    simp only [Option.bind_some, if_true, q]
theorem txt_ok : ∀ (bs : List D), (∀ d ∈ bs, okD d = true) → okL (txt bs)
  | [], _ => by intro c hc; simp [txt] at hc
  | d :: ds, h => by
    rw [txt_cons]
    exact (rc_ok d (h d List.mem_cons_self)).app (txt_ok ds fun x hx => h x (List.mem_cons_of_mem _ hx))
/-- recovering from a text that is cut off somewhere -/
theorem recover_ok {lg : Nat} {s c sc : Int} {bs : List D} (hb : ∀ d ∈ bs, okD d = true ∧ d.dp ≤ 8 ∧ (wr d).length ≤ 20000) (hl : (txt bs).length ≤ 50000) (hn : bs.length ≤ 900) (k : Nat) (h : Lg St lg ((txt bs).take k) s c sc) (hN : 10 ≤ N) :
    runF T (N + 3) ("Log", some "recover") [.ref lg] St = some (.lst (bs.take (wN bs 0 k)), St.set lg (.ins "Log" (LgF (txt (bs.take (wN bs 0 k))) ((txt (bs.take (wN bs 0 k))).length : Int) ((bs.take (wN bs 0 k)).length : Int) ((bs.take (wN bs 0 k)).length : Int)))) := by
  have bg := big
  obtain ⟨hw, _, p, hp, hc⟩ := split_ok bs 0 k
  generalize hG : bs.take (wN bs 0 k) = gs at *
  have gsub : ∀ d ∈ gs, d ∈ bs := fun d hd => by rw [← hG] at hd; exact List.mem_of_mem_take hd
  have glen : gs.length ≤ 900 := by rw [← hG, List.length_take]; omega
  have okl : okL ((txt bs).take k) := (txt_ok bs fun d hd => (hb d hd).1).take k
  have ll : ((txt bs).take k).length ≤ 50000 := by rw [List.length_take]; omega
  have gl : (txt gs).length ≤ ((txt bs).take k).length := by rw [hp, List.length_append]; omega
  have gtake : ((txt bs).take k).take (txt gs).length = txt gs := by rw [hp, List.take_left]
  generalize (txt bs).take k = l at *
  have endp : ∀ a, l.drop a = p → runF T (N + 2) ("record_at", none) [.str (S l), .int (a : Int)] St = some (.non, St) := fun a ha => by
    rcases hc with rfl | ⟨d, j, h1, h2, rfl⟩
    · have z : (l.drop a).takeWhile dig = [] := by rw [ha]; rfl
      refine rat_none okl ll a (by unfold Sm; rw [z]; simp) ?_
      unfold headR
      rw [if_pos z]
    · exact rat_part okl ll (hb d h1).2.2 h2 ha
  have run : runF T (N + 3) ("Log", some "recover") [.ref lg] St = (evSs (Z.run T (N + 2)) (.cons Log_recover0 (.cons Log_recover1 (.cons Log_recover2 (.cons Log_recover3 (.cons Log_recover4 (.cons Log_recover5 (.cons Log_recover6 (.frz 1 (.cons Log_recover7 .nil))))))))) [.fz (.ref lg), .un, .un, .un] St).bind outR := by rw [run_def at_Log_recover _ St rfl]; rfl
  have h' : St[lg]? = some (.ins "Log" (LgF l s c sc)) := h
  have f1 := fl "text" (by simp)
  have first : runF T (N + 2) ("record_at", none) [.str (S l), .int 0] St = some (atD gs 0, St) := by
    cases hg : gs with
    | nil => rw [hg] at hp; exact endp 0 (by rw [hp]; simp [txt])
    | cons x xs =>
      rw [hg] at hp gsub
      obtain ⟨okx, dpx, _⟩ := hb x (gsub x (by simp))
      exact rat_rec okl ll okx (rest := txt xs ++ p) (at_ := 0) (by rw [hp, txt_cons, List.append_assoc]; rfl) (by omega)
  have q0 : evS (Z.run T (N + 2)) Log_recover0 [.fz (.ref lg), .un, .un, .un] St = some (.nxt [.fz (.ref lg), .own (.lst []), .un, .un] St) := by
    simp -implicitDefEqProofs [Log_recover0, isFresh]
  have q1 : evS (Z.run T (N + 2)) Log_recover1 [.fz (.ref lg), .own (.lst []), .un, .un] St = some (.nxt [.fz (.ref lg), .own (.lst []), .fz (.int 0), .un] St) := by
    simp -implicitDefEqProofs [Log_recover1, Cst.d, bindT]
  have q2 : evS (Z.run T (N + 2)) Log_recover2 [.fz (.ref lg), .own (.lst []), .fz (.int 0), .un] St = some (.nxt (Ec lg [] 0 (.fz (atD gs 0))) St) := by
    simp -implicitDefEqProofs [Log_recover2, hOf, bindT, h', lf_text, f1, first]
    try rfl
  have q3 : evS (Z.run T (N + 2)) Log_recover3 (Ec lg [] 0 (.fz (atD gs 0))) St = some (.nxt (Ec lg gs (txt gs).length (.fz .non)) St) := by
    unfold Log_recover3
    rw [x_evS_while_]
    have := rec_loop okl ll h p hN endp gs [] 0 whMost (fun d hd => ⟨(hb d (gsub d hd)).1, (hb d (gsub d hd)).2.1⟩) (by rw [hp]; rfl) (Nat.lt_of_le_of_lt glen (by decide)) (by simp; omega)
    rw [this, List.nil_append, Nat.zero_add]
  have s1 := sl0_S (l := l) (by omega) (txt gs).length
  rw [gtake] at s1
  have e4 := setF_text (N := N + 2) (t' := txt gs) h
  have q4 : evS (Z.run T (N + 2)) Log_recover4 (Ec lg gs (txt gs).length (.fz .non)) St = some (.nxt (Ec lg gs (txt gs).length (.fz .non)) (St.set lg (.ins "Log" (LgF (txt gs) s c sc)))) := by
    simp -implicitDefEqProofs [Log_recover4, hOf, h', lf_text, f1, ixO, s1, e4]
  have h5 := Lg.set (t' := txt gs) (s' := s) (c' := c) (sc' := sc) h
  have e5 := setF_count (N := N + 2) (c' := (gs.length : Int)) h5
  rw [List.set_set] at e5
  have lng : bltD .len [.lst gs] = some (.int (gs.length : Int)) := rfl
  have q5 : evS (Z.run T (N + 2)) Log_recover5 (Ec lg gs (txt gs).length (.fz .non)) (St.set lg (.ins "Log" (LgF (txt gs) s c sc))) = some (.nxt (Ec lg gs (txt gs).length (.fz .non)) (St.set lg (.ins "Log" (LgF (txt gs) s (gs.length : Int) sc)))) := by
    simp -implicitDefEqProofs [Log_recover5, hOf, lng, e5]
  have h6 := Lg.set (t' := txt gs) (s' := s) (c' := (gs.length : Int)) (sc' := sc) h
  have h6' : (St.set lg (.ins "Log" (LgF (txt gs) s (gs.length : Int) sc)))[lg]? = some (.ins "Log" (LgF (txt gs) s (gs.length : Int) sc)) := h6
  have e6 := make_safe_ok (N := N + 1) h6 (by omega)
  rw [List.set_set] at e6
  have lm := lf_m (t := txt gs) (s := s) (c := (gs.length : Int)) (sc := sc) (x := "make_safe") (by simp)
  have q6 : evS (Z.run T (N + 2)) Log_recover6 (Ec lg gs (txt gs).length (.fz .non)) (St.set lg (.ins "Log" (LgF (txt gs) s (gs.length : Int) sc))) = some (.nxt (Ec lg gs (txt gs).length (.fz .non)) (St.set lg (.ins "Log" (LgF (txt gs) ((txt gs).length : Int) (gs.length : Int) (gs.length : Int))))) := by
    simp -implicitDefEqProofs [Log_recover6, hOf, h6', lm, e6]
  rw [run, seq1 q0, seq1 q1, seq1 q2, seq1 q3, seq1 q4, seq1 q5, seq1 q6]
  simp -implicitDefEqProofs [Log_recover7]
  try rfl
end
end K50

set_option Elab.async false
set_option linter.all false
set_option maxRecDepth 100000
set_option maxHeartbeats 2000000
namespace K50
open PySem PySem.Spec PyProof.Rows L2 Z Tx
def Rd (S : Store) (st c : Nat) : Prop := ∃ pos cs, Rnd S st c pos cs
def Wnt (st c : Nat) (S S' : Store) : Prop := Rd S' st c ∧ S'.length = S.length ∧ ∀ k, k ≠ st → k ≠ c → S'[k]? = S[k]?
theorem Wnt.trans {st c : Nat} {S S1 S2 : Store} (a : Wnt st c S S1) (b : Wnt st c S1 S2) : Wnt st c S S2 := ⟨b.1, b.2.1.trans a.2.1, fun k h1 h2 => (b.2.2 k h1 h2).trans (a.2.2 k h1 h2)⟩
theorem Wnt.refl {st c : Nat} {S : Store} (h : Rd S st c) : Wnt st c S S := ⟨h, rfl, fun _ _ _ => rfl⟩
section
variable {St : Store} {N st c : Nat}
theorem take (h : Rd St st c) (most : Int) (h0 : 0 < most) (h1 : most < 1073741824) : ∃ v S', runF T (N + 1) ("_law_take", none) [.ref st, .int most] St = some (.int v, S') ∧ 0 ≤ v ∧ v < most ∧ Wnt st c St S' := by
  obtain ⟨pos, cs, R⟩ := h
  obtain ⟨v, S', e, d1, d2, d3, d4, d5⟩ := take_ok at__law_take (n := N) R most h1
  exact ⟨v, S', e, (d1 h0).1, (d1 h0).2, d3, d4, d5⟩
structure ChOk (d : D) : Prop where
  ok : okD d = true
  dp : d.dp ≤ 4
  len : (wr d).length ≤ 300
  lf : d.lf = true
  nd : d.nd ≤ 100
def inD : D := .tup [.str "intent", .int 7, .int 0, .int 5, .str "a", .tup [.int 10, .int 1], .tup [.int 9, .int 0], .lst [.tup [.int 1, .str "x:;"], .tup [.int 2, .non]]]
def reD : D := .tup [.str "record", .int 7, .int 1, .str "staged", .int 5, .str "a", .tup [.int 12, .int 0], .tup [.int 11, .int 0], .lst [.tup [.str "a", .int 1], .tup [.str "b", .int 2]]]
def ws4 : List D := [.str "", .str "v", .str "(2)", .non]
theorem ws4_ok : ∀ w ∈ ws4, okD w = true ∧ (wr w).length ≤ 20 ∧ w.lf = true ∧ w.nd ≤ 1 ∧ w.dp = 0 := by decide +kernel
theorem c_in : ChOk (.tup [.str "intent", .str "b", inD]) := ⟨by decide +kernel, by decide +kernel, by decide +kernel, by decide +kernel, by decide +kernel⟩
theorem c_gone : ChOk (.tup [.str "intent", .str "b", .non]) := ⟨by decide +kernel, by decide +kernel, by decide +kernel, by decide +kernel, by decide +kernel⟩
theorem c_rec : ChOk (.tup [.str "record", reD]) := ⟨by decide +kernel, by decide +kernel, by decide +kernel, by decide +kernel, by decide +kernel⟩
theorem c_nov : ChOk (.tup [.str "no version", .str "zz", .tup [.int 0, .int 999999]]) := ⟨by decide +kernel, by decide +kernel, by decide +kernel, by decide +kernel, by decide +kernel⟩
theorem k_ver : okD (.str "version") = true ∧ (wr (.str "version")).length ≤ 20 ∧ txS "version" = true := by decide +kernel
theorem k_a : okD (.str "a") = true ∧ (wr (.str "a")).length ≤ 20 ∧ txS "a" = true := by decide +kernel
theorem k_bd : okD (.str "bound") = true ∧ (wr (.str "bound")).length ≤ 20 ∧ txS "bound" = true := by decide +kernel
theorem k_0 : okD (.int 0) = true ∧ (wr (.int 0)).length ≤ 20 ∧ txI 0 = true := by decide +kernel
theorem int_len {v : Int} (h0 : 0 ≤ v) (h1 : v < 1000000) : okD (.int v) = true ∧ (wr (.int v)).length ≤ 20 ∧ txI v = true := by
  refine ⟨by rw [okD]; simp; omega, ?_, by unfold txI; simp; omega⟩
  rw [wr, List.length_append]
  have := dg_len (n := v.toNat) (by omega)
  simp; omega
theorem c_ver {v : Int} (h0 : 0 ≤ v) (h1 : v < 1000) {w : D} (hw : w ∈ ws4) : ChOk (.tup [.str "version", .str "a", .tup [.int v, .int 0], w]) := by
  obtain ⟨w1, w2, w3, w4, w5⟩ := ws4_ok w hw
  obtain ⟨a1, a2, a3⟩ := k_ver
  obtain ⟨b1, b2, b3⟩ := k_a
  obtain ⟨z1, z2, z3⟩ := k_0
  obtain ⟨i1, i2, i3⟩ := int_len h0 (show v < 1000000 by omega)
  refine ⟨?_, ?_, ?_, ?_, ?_⟩
  · simp [okD.eq_4, okDs, a1, b1, z1, i1, w1]
  · simp [D.dp, dps, w5]
  · have : (wr (.tup [.str "version", .str "a", .tup [.int v, .int 0], w])).length = (wr (.str "version")).length + (wr (.str "a")).length + (wr (.int v)).length + (wr (.int 0)).length + (wr w).length + 4 := by
      simp [wr.eq_4, wrs]; omega
    omega
  · simp [D.lf, lfs, a3, b3, z3, i3, w3]
  · simp [D.nd, nds]; omega
theorem c_bound {v : Int} (h0 : 0 ≤ v) (h1 : v < 99999) : ChOk (.tup [.str "bound", .int v]) := by
  obtain ⟨a1, a2, a3⟩ := k_bd
  obtain ⟨i1, i2, i3⟩ := int_len h0 (show v < 1000000 by omega)
  refine ⟨?_, ?_, ?_, ?_, ?_⟩
  · simp [okD.eq_4, okDs, a1, i1]
  · simp [D.dp, dps]
  · have : (wr (.tup [.str "bound", .int v])).length = (wr (.str "bound")).length + (wr (.int v)).length + 2 := by
      simp [wr.eq_4, wrs]; omega
    omega
  · simp [D.lf, lfs, a3, i3]
  · simp [D.nd, nds]
theorem szs : (9 : Nat) ≤ sizeLine ∧ (8 : Nat) ≤ sizeLine ∧ (6 : Nat) ≤ sizeLine ∧ (5 : Nat) ≤ sizeLine ∧ (4 : Nat) ≤ sizeLine ∧ (3 : Nat) ≤ sizeLine ∧ (2 : Nat) ≤ sizeLine := by decide
theorem change_ok (h : Rd St st c) : ∃ d S', ChOk d ∧ runF T (N + 2) ("_law_change", none) [.ref st] St = some (d, S') ∧ Wnt st c St S' := by
  obtain ⟨v1, S1, e1, p0, p1, w1⟩ := take (N := N) h 1000 (by decide) (by decide)
  obtain ⟨i, S2, e2, i0, i1, w2⟩ := take (N := N) w1.1 4 (by decide) (by decide)
  obtain ⟨v2, S3, e3, q0, q1, w3⟩ := take (N := N) w2.1 99999 (by decide) (by decide)
  obtain ⟨j, S4, e4, j0, j1, w4⟩ := take (N := N) w3.1 6 (by decide) (by decide)
  obtain ⟨w, hw, ew⟩ := Z.atI_in (f := (id : D → D)) (xs := ws4) (v := i) ⟨i0, by simp [ws4]; omega⟩
  have ew : atI [.str "", .str "v", .str "(2)", .non] i = some w := ew
  obtain ⟨d, hd, ed⟩ := Z.atI_in (f := (id : D → D)) (xs := [.tup [.str "version", .str "a", .tup [.int v1, .int 0], w], .tup [.str "intent", .str "b", inD], .tup [.str "intent", .str "b", .non], .tup [.str "record", reD], .tup [.str "bound", .int v2], .tup [.str "no version", .str "zz", .tup [.int 0, .int 999999]]]) (v := j) ⟨j0, by simp; omega⟩
  have ed : atI [.tup [.str "version", .str "a", .tup [.int v1, .int 0], w], .tup [.str "intent", .str "b", inD], .tup [.str "intent", .str "b", .non], .tup [.str "record", reD], .tup [.str "bound", .int v2], .tup [.str "no version", .str "zz", .tup [.int 0, .int 999999]]] j = some d := ed
  have ok : ChOk d := by
    simp at hd
    rcases hd with rfl | rfl | rfl | rfl | rfl | rfl
    · exact c_ver p0 p1 hw
    · exact c_in
    · exact c_gone
    · exact c_rec
    · exact c_bound q0 q1
    · exact c_nov
  refine ⟨d, S4, ok, ?_, ((w1.trans w2).trans w3).trans w4⟩
  have run : runF T (N + 2) ("_law_change", none) [.ref st] St = (evSs (Z.run T (N + 1)) (.cons law_change0 (.cons law_change1 (.cons law_change2 (.cons law_change3 (.cons law_change4 .nil))))) [.fz (.ref st), .un, .un, .un] St).bind outR := by rw [run_def at__law_change _ St rfl]; rfl
  have sz := szs
  have q0 : evS (Z.run T (N + 1)) law_change0 [.fz (.ref st), .un, .un, .un] St = some (.nxt [.fz (.ref st), .fz inD, .un, .un] St) := by
    simp -implicitDefEqProofs [law_change0, bindT, Cst.d, sz]
    rfl
  have q1 : evS (Z.run T (N + 1)) law_change1 [.fz (.ref st), .fz inD, .un, .un] St = some (.nxt [.fz (.ref st), .fz inD, .fz reD, .un] St) := by
    simp -implicitDefEqProofs [law_change1, bindT, Cst.d, sz]
    rfl
  have ci : ∀ {ρ : Env'} {S : Store}, cont ρ S (.val inD) = some inD := rfl
  have cr : ∀ {ρ : Env'} {S : Store}, cont ρ S (.val reD) = some reD := rfl
  have q2 : evS (Z.run T (N + 1)) law_change2 [.fz (.ref st), .fz inD, .fz reD, .un] St = some (.nxt [.fz (.ref st), .fz inD, .fz reD, .fz (.lst [.tup [.str "version", .str "a", .tup [.int v1, .int 0], w], .tup [.str "intent", .str "b", inD]])] S2) := by
    simp -implicitDefEqProofs [law_change2, hOf, bindT, Cst.d, sz, e1, e2, ew, ci]
    try rfl
  have q3 : evS (Z.run T (N + 1)) law_change3 [.fz (.ref st), .fz inD, .fz reD, .fz (.lst [.tup [.str "version", .str "a", .tup [.int v1, .int 0], w], .tup [.str "intent", .str "b", inD]])] S2 = some (.nxt [.fz (.ref st), .fz inD, .fz reD, .fz (.lst [.tup [.str "version", .str "a", .tup [.int v1, .int 0], w], .tup [.str "intent", .str "b", inD], .tup [.str "intent", .str "b", .non], .tup [.str "record", reD], .tup [.str "bound", .int v2], .tup [.str "no version", .str "zz", .tup [.int 0, .int 999999]]])] S3) := by
    simp -implicitDefEqProofs [law_change3, hOf, bindT, Cst.d, sz, e3, binD, cr]
    try rfl
  rw [run, seq1 q0, seq1 q1, seq1 q2, seq1 q3]
  simp -implicitDefEqProofs [law_change4, hOf, Cst.d, e4, ed]
  try rfl
/-! # batches -/
structure BaOk (d : D) : Prop where
  ok : okD d = true
  dp : d.dp ≤ 5
  len : (wr d).length ≤ 1000
  re : ∃ x : Str, bltD .repr [d] = some (.str x) ∧ PyData.strOk x = true
structure Bas (ds : List D) (k : Nat) : Prop where
  ok : ∀ d ∈ ds, ChOk d
  len : ds.length ≤ k
theorem okDs_of {ds : List D} (h : ∀ d ∈ ds, okD d = true) : okDs ds = true := by
  induction ds with
  | nil => rw [okDs]
  | cons d ds ih => rw [okDs, h d List.mem_cons_self, ih fun x hx => h x (List.mem_cons_of_mem _ hx)]; rfl
theorem ba_ok {ds : List D} (h : ∀ d ∈ ds, ChOk d) (hl : ds.length ≤ 3) : BaOk (.lst ds) := by
  have l1 : (wrs ds).length ≤ 300 * ds.length := by
    clear hl
    induction ds with
    | nil => rw [wrs]; simp
    | cons d ds ih =>
      rw [wrs, List.length_append, List.length_cons]
      have := ih fun x hx => h x (List.mem_cons_of_mem _ hx)
      have := (h d List.mem_cons_self).len
      omega
  have l2 : nds ds ≤ 100 * ds.length := by
    clear hl l1
    induction ds with
    | nil => rw [nds]; simp
    | cons d ds ih =>
      rw [nds, List.length_cons]
      have := ih fun x hx => h x (List.mem_cons_of_mem _ hx)
      have := (h d List.mem_cons_self).nd
      omega
  have l3 : dps ds ≤ 4 := by
    clear hl l1 l2
    induction ds with
    | nil => rw [dps]; omega
    | cons d ds ih =>
      rw [dps]
      exact Nat.max_le.mpr ⟨(h d List.mem_cons_self).dp, ih fun x hx => h x (List.mem_cons_of_mem _ hx)⟩
  have l4 : lfs ds = true := by
    clear hl l1 l2 l3
    induction ds with
    | nil => rw [lfs]
    | cons d ds ih => rw [lfs, (h d List.mem_cons_self).lf, ih fun x hx => h x (List.mem_cons_of_mem _ hx)]; rfl
  refine ⟨?_, ?_, ?_, repr_small rfl (by rw [D.lf]; exact l4) (by rw [D.dp]; omega) (by rw [D.nd]; omega)⟩
  · rw [okD, okDs_of fun d hd => (h d hd).ok, Bool.and_true, decide_eq_true_eq]; omega
  · rw [D.dp]; omega
  · rw [wr]; simp; omega
theorem ba_rc {d : D} (h : BaOk d) : (rc d).length ≤ 1030 := by
  have := rc_len d (by have := h.len; omega)
  have := h.len
  omega
theorem txt_len : ∀ (bs : List D), (∀ d ∈ bs, BaOk d) → (txt bs).length ≤ 1030 * bs.length
  | [], _ => by simp [txt]
  | d :: ds, h => by
    rw [txt_cons, List.length_append, List.length_cons]
    have := txt_len ds fun x hx => h x (List.mem_cons_of_mem _ hx)
    have := ba_rc (h d List.mem_cons_self)
    omega
end
end K50

set_option Elab.async false
set_option linter.all false
set_option maxRecDepth 100000
set_option maxHeartbeats 2000000
namespace K50
open PySem PySem.Spec PyProof.Rows L2 Z Tx
theorem fit_dp {d : D} (h : d.plain = true) (hd : d.dp ≤ 60) : d.fit = true := by
  have e : d.dep = d.dp := by
    rw [← dep_of d, pyr_py d h]; rfl
  unfold D.fit
  rw [h, Bool.true_and, decide_eq_true_eq, e]
  exact hd
theorem maxD_int (x : Int) (xs : List Int) : maxD (.int x) (xs.map D.int) = .int (xs.foldl max x) := by
  unfold maxD
  induction xs generalizing x with
  | nil => rfl
  | cons y ys ih =>
    rw [List.map_cons, List.foldl_cons, List.foldl_cons, ltD_int, ← ih]
    congr 1
    by_cases h : x < y
    · rw [decide_eq_true h, if_pos rfl, Int.max_def, if_pos (by omega)]
    · rw [decide_eq_false h, if_neg (by simp), Int.max_def]
      split
      · have : x = y := by omega
        rw [this]
      · rfl
theorem nocs_int (xs : List Int) : nocs (xs.map D.int) = true := by
  induction xs with
  | nil => rfl
  | cons x xs ih => rw [List.map_cons, nocs, ih]; rfl
theorem max_ints (x : Int) (xs : List Int) : bltD .max [.lst ((x :: xs).map D.int)] = some (.int (xs.foldl max x)) := by
  have ok : okAll ((x :: xs).map D.int) = true := okAll_map _ D.int (fun y hy => ⟨rfl, by simp [D.dep, D.py, PyData.depth], rfl⟩) fun y _ z _ => like_int y z
  show (if okAll ((x :: xs).map D.int) && nocs ((x :: xs).map D.int) then some (maxD (.int x) (xs.map D.int)) else none) = _
  rw [ok, nocs_int, maxD_int]
  rfl
theorem foldl_cast (xs : List Nat) (x : Nat) : (xs.map fun e : Nat => (e : Int)).foldl max (x : Int) = ((xs.foldl max x : Nat) : Int) := by
  induction xs generalizing x with
  | nil => rfl
  | cons y ys ih =>
    rw [List.map_cons, List.foldl_cons, List.foldl_cons, ← ih]
    congr 1
    omega
structure Sta (St : Store) (st c lg ma mb mm : Nat) (bs : List D) (sf : Nat) (sc : Int) : Prop where
  rd : Rd St st c
  log : Lg St lg (txt bs) sf bs.length sc
  m : St[mm]? = some (.con (.lst [.ref ma, .ref mb, .str (S (txt bs)), .int (sf : Int)]))
  a : St[ma]? = some (.con (.lst bs))
  b : St[mb]? = some (.con (.lst ((endsL bs 0).map fun e : Nat => D.int (e : Int))))
  ne : st < lg ∧ c < lg ∧ lg < mm ∧ lg < ma ∧ lg < mb ∧ ma ≠ mb ∧ ma ≠ mm ∧ mb ≠ mm
  ok : ∀ d ∈ bs, BaOk d
section
variable {St S' : Store} {N st c lg ma mb mm sf : Nat} {bs : List D} {sc : Int}
theorem Sta.wnt (h : Sta St st c lg ma mb mm bs sf sc) (w : Wnt st c St S') : Sta S' st c lg ma mb mm bs sf sc := by
  obtain ⟨n1, n2, n3, n4, n5, n6, n7, n8⟩ := h.ne
  obtain ⟨w1, w2, w3⟩ := w
  refine ⟨w1, ?_, ?_, ?_, ?_, h.ne, h.ok⟩
  · unfold Lg; rw [w3 _ (by omega) (by omega)]; exact h.log
  · rw [w3 _ (by omega) (by omega)]; exact h.m
  · rw [w3 _ (by omega) (by omega)]; exact h.a
  · rw [w3 _ (by omega) (by omega)]; exact h.b
theorem Rd.of {S1 S2 : Store} (h : Rd S1 st c) (e1 : S2[st]? = S1[st]?) (e2 : S2[c]? = S1[c]?) : Rd S2 st c := by
  obtain ⟨pos, cs, R⟩ := h
  exact ⟨pos, cs, by rw [e1]; exact R.at_, by rw [e2]; exact R.row, R.ne, R.pos0, R.len, R.nn⟩
/-- making safe -/
abbrev E (st lg mm : Nat) (x4 x5 x6 x7 x8 : Z.Slot) : Env' := [.fz (.ref 0), .fz (.ref st), .fz (.ref lg), .fz (.ref mm), x4, x5, x6, x7, x8]
theorem write_ok {t : List Nat} {s cc sc : Int} (h : Lg St lg t s cc sc) (d : D) (ok : okD d = true) (hw : (wr d).length ≤ 20000) (hl : t.length ≤ 20000) (hN : d.dp + 1 ≤ N) :
    runF T (N + 2) ("Log", some "write") [.ref lg, d] St = some (.non, St.set lg (.ins "Log" (LgF (t ++ rc d) s (cc + 1) sc))) := by
  have bg := big
  have run : runF T (N + 2) ("Log", some "write") [.ref lg, d] St = (evSs (Z.run T (N + 1)) (.cons Log_write0 (.cons Log_write1 .nil)) [.fz (.ref lg), .fz d] St).bind outR := by rw [run_def at_Log_write _ St rfl]; rfl
  have e := record_ok (St := St) (N := N) d hN ok hw
  have rl := rc_len d hw
  have a1 := add_S (a := t) (b := rc d) (by omega)
  have f1 := fl "text" (by simp)
  have f2 := fl "count" (by simp)
  have h' : St[lg]? = some (.ins "Log" (LgF t s cc sc)) := h
  have e1 := setF_text (N := N + 1) (t' := t ++ rc d) h
  have cd : ∀ {ρ : Env'} {S : Store}, cont ρ S (.val d) = some d := fun {ρ S} => by
    have := plain_ok d ok
    cases d <;> first | rfl | cases this
  have q0 : evS (Z.run T (N + 1)) Log_write0 [.fz (.ref lg), .fz d] St = some (.nxt [.fz (.ref lg), .fz d] (St.set lg (.ins "Log" (LgF (t ++ rc d) s cc sc)))) := by
    simp -implicitDefEqProofs [Log_write0, hOf, h', lf_text, f1, cd, e, a1, e1]
  have h2 := Lg.set (t' := t ++ rc d) (s' := s) (c' := cc) (sc' := sc) h
  have h2' : (St.set lg (.ins "Log" (LgF (t ++ rc d) s cc sc)))[lg]? = some (.ins "Log" (LgF (t ++ rc d) s cc sc)) := h2
  have e2 := setF_count (N := N + 1) (c' := cc + 1) h2
  rw [List.set_set] at e2
  rw [run, seq1 q0]
  simp -implicitDefEqProofs [Log_write1, hOf, Cst.d, h2', lf_count, f2, e2]
  try rfl
abbrev Ef (lg mm k : Nat) (x3 : Z.Slot) : Env' := [.fz (.ref lg), .fz (.ref mm), .fz (.int (k : Int)), x3, .un]
theorem fallen_ok (h : Sta St st c lg ma mb mm bs sf sc) (hn : bs.length ≤ 15) (k : Nat) (hN : 12 ≤ N) :
    ∃ S' gs ma' mb' sc', runF T (N + 4) ("_law_fallen", none) [.ref lg, .ref mm, .int (k : Int)] St = some (.bl true, S') ∧ Sta S' st c lg ma' mb' mm gs (txt gs).length sc' ∧ gs.length ≤ bs.length := by
  have bg := big
  have tl := txt_len bs h.ok
  have tl2 : (txt bs).length ≤ 20000 := by omega
  obtain ⟨n1, n2, n3, n4, n5, n6, n7, n8⟩ := h.ne
  have run : runF T (N + 4) ("_law_fallen", none) [.ref lg, .ref mm, .int (k : Int)] St = (evSs (Z.run T (N + 3)) (.cons law_fallen0 (.cons law_fallen1 (.cons law_fallen2 (.cons law_fallen3 (.cons law_fallen4 (.cons law_fallen5 (.cons law_fallen6 (.cons law_fallen7 (.cons law_fallen8 .nil))))))))) (Ef lg mm k .un) St).bind outR := by rw [run_def at__law_fallen _ St rfl]; rfl
  have hlog : St[lg]? = some (.ins "Log" (LgF (txt bs) sf bs.length sc)) := h.log
  have e0 := fall_ok (N := N + 2) h.log (by omega) k
  have okt := txt_ok bs fun d hd => (h.ok d hd).ok
  have lm := lf_m (t := txt bs) (s := sf) (c := bs.length) (sc := sc) (x := "fall") (by simp)
  generalize hS1 : St.set lg (.ins "Log" (LgF ((txt bs).take (sf + k)) sf bs.length sc)) = S1 at e0
  have q0 : evS (Z.run T (N + 3)) law_fallen0 (Ef lg mm k .un) St = some (.nxt (Ef lg mm k .un) S1) := by
    simp -implicitDefEqProofs [law_fallen0, hOf, hlog, lm, e0]
  have g1 : ∀ j, j ≠ lg → S1[j]? = St[j]? := fun j hj => by rw [← hS1]; exact List.getElem?_set_ne (Ne.symm hj)
  have log1 : Lg S1 lg ((txt bs).take (sf + k)) sf bs.length sc := by rw [← hS1]; exact Lg.set h.log
  have m1 : S1[mm]? = some (.con (.lst [.ref ma, .ref mb, .str (S (txt bs)), .int (sf : Int)])) := by rw [g1 _ (by omega)]; exact h.m
  have a1 : S1[ma]? = some (.con (.lst bs)) := by rw [g1 _ (by omega)]; exact h.a
  have b1 : S1[mb]? = some (.con (.lst ((endsL bs 0).map fun e : Nat => D.int (e : Int)))) := by rw [g1 _ (by omega)]; exact h.b
  have r1 : Rd S1 st c := Rd.of h.rd (g1 _ (by omega)) (g1 _ (by omega))
  have l1 : S1.length = St.length := by rw [← hS1, List.length_set]
  -- the law's own text
  have s1 := sl0_S (l := txt bs) (by omega) (sf + k)
  rw [show ((sf + k : Nat) : Int) = (sf : Int) + (k : Int) by omega] at s1
  generalize hK : sf + k = kk at *
  have ix0 : ∀ (a b e f : D), idxD (.lst [a, b, e, f]) (.int 0) = some a := fun a b e f => rfl
  have ix1 : ∀ (a b e f : D), idxD (.lst [a, b, e, f]) (.int 1) = some b := fun a b e f => rfl
  have ix2 : ∀ (a b e f : D), idxD (.lst [a, b, e, f]) (.int 2) = some e := fun a b e f => rfl
  have ix3 : ∀ (a b e f : D), idxD (.lst [a, b, e, f]) (.int 3) = some f := fun a b e f => rfl
  have st0 : ∀ (a b e f x : D), setItem' (.lst [a, b, e, f]) (.int 0) x = some (.lst [x, b, e, f]) := fun a b e f x => rfl
  have st1 : ∀ (a b e f x : D), setItem' (.lst [a, b, e, f]) (.int 1) x = some (.lst [a, x, e, f]) := fun a b e f x => rfl
  have st2 : ∀ (a b e f x : D), setItem' (.lst [a, b, e, f]) (.int 2) x = some (.lst [a, b, x, f]) := fun a b e f x => rfl
  have st3 : ∀ (a b e f x : D), setItem' (.lst [a, b, e, f]) (.int 3) x = some (.lst [a, b, e, x]) := fun a b e f x => rfl
  have mlen : mm < S1.length := (List.getElem?_eq_some_iff.mp m1).1
  generalize hS2 : S1.set mm (.con (.lst [.ref ma, .ref mb, .str (S ((txt bs).take kk)), .int (sf : Int)])) = S2
  have q1 : evS (Z.run T (N + 3)) law_fallen1 (Ef lg mm k .un) S1 = some (.nxt (Ef lg mm k .un) S2) := by
    simp -implicitDefEqProofs [law_fallen1, hOf, Cst.d, m1, ix2, ix3, binD, ixO, s1, st2, putC, setC, hS2]
  have g2 : ∀ j, j ≠ mm → S2[j]? = S1[j]? := fun j hj => by rw [← hS2]; exact List.getElem?_set_ne (Ne.symm hj)
  have m2 : S2[mm]? = some (.con (.lst [.ref ma, .ref mb, .str (S ((txt bs).take kk)), .int (sf : Int)])) := by rw [← hS2]; exact List.getElem?_set_self mlen
  have a2 : S2[ma]? = some (.con (.lst bs)) := by rw [g2 _ n7]; exact a1
  have b2 : S2[mb]? = some (.con (.lst ((endsL bs 0).map fun e : Nat => D.int (e : Int)))) := by rw [g2 _ n8]; exact b1
  have log2 : Lg S2 lg ((txt bs).take kk) sf bs.length sc := by unfold Lg; rw [g2 _ (by omega)]; exact log1
  have r2 : Rd S2 st c := Rd.of r1 (g2 _ (by omega)) (g2 _ (by omega))
  have l2 : S2.length = S1.length := by rw [← hS2, List.length_set]
  -- how many are whole
  obtain ⟨hw, hf, p, hp, hpp⟩ := split_ok bs 0 kk
  have tkl : ((txt bs).take kk).length = min kk (txt bs).length := List.length_take
  have lent := len_S (l := (txt bs).take kk) (by omega)
  have cle : ∀ a b : Nat, cmpD .LtE (.int (a : Int)) (.int (b : Int)) = some (decide (a ≤ b)) := fun a b => by
    rw [le_ii]
    congr 1
    exact decide_eq_decide.mpr (by omega)
  have elen := ends_len bs 0
  have ends_le : ∀ (ds : List D) (a : Nat), ∀ e ∈ endsL ds a, e ≤ a + (txt ds).length := by
    intro ds
    induction ds with
    | nil => intro a e h; simp [endsL] at h
    | cons d ds ih =>
      intro a e h
      unfold endsL at h
      rw [txt_cons, List.length_append]
      rcases List.mem_cons.mp h with rfl | h
      · omega
      · have := ih _ e h; omega
  have fe : (endsL bs 0).filter (fun e => decide (e ≤ ((txt bs).take kk).length)) = (endsL bs 0).filter (fun e => decide (e ≤ kk)) := by
    refine List.filter_congr fun e he => decide_eq_decide.mpr ?_
    have := ends_le bs 0 e he
    rw [tkl]
    omega
  have q2 : evS (Z.run T (N + 3)) law_fallen2 (Ef lg mm k .un) S2 = some (.nxt (Ef lg mm k (.fz (.int (wN bs 0 kk : Int)))) S2) := by
    have ec : evE (Z.run T (N + 3)) (.comp (.nm 4) (.seq (.idx (.var 1) (.cst (.int 1)))) (.cons (.cmp .LtE (.var 4) (.blt .len (.cons (.idx (.var 1) (.cst (.int 2))) .nil))) .nil) (.var 4)) (Ef lg mm k .un) S2 = some (.lst (((endsL bs 0).filter fun e => decide (e ≤ ((txt bs).take kk).length)).map fun e : Nat => D.int (e : Int)), S2) := by
      refine comp_keeph (w := .val (.ref mb)) (i := 4) (ρ := Ef lg mm k .un) (fun e : Nat => D.int (e : Int)) (endsL bs 0) (fun e => decide (e ≤ ((txt bs).take kk).length)) rfl ?_ ?_ (show 4 < 5 by decide) (fun x hx => ?_) (by omega)
      · simp [lockS, b2]
      · simp -implicitDefEqProofs [hOf, Cst.d, m2, ix1, b2, itemsIn]
      · show evE _ _ [.fz (.ref lg), .fz (.ref mm), .fz (.int (k : Int)), .un, .fz (.int (x : Int))] S2 = _
        have := cle x ((txt bs).take kk).length
        simp -implicitDefEqProofs [-List.length_take, hOf, Cst.d, m2, ix2, lent, this]
    rw [fe] at ec
    have ll : bltD .len [.lst (((endsL bs 0).filter fun e => decide (e ≤ kk)).map fun e : Nat => D.int (e : Int))] = some (.int (wN bs 0 kk : Int)) := by
      show some (D.int ((((endsL bs 0).filter fun e => decide (e ≤ kk)).map fun e : Nat => D.int (e : Int)).length : Int)) = _
      rw [List.length_map]
      unfold wN
      rw [Nat.zero_add]
    unfold law_fallen2
    simp -implicitDefEqProofs [hOf, ec, ll, bindT]
  have rcv := recover_ok (N := N) (lg := lg) (St := S2) (bs := bs) (fun d hd => ⟨(h.ok d hd).ok, by have := (h.ok d hd).dp; omega, by have := (h.ok d hd).len; omega⟩) (by omega) (by omega) kk log2 (by omega)
  generalize hW : wN bs 0 kk = w at *
  have gok : ∀ d ∈ bs.take w, BaOk d := fun d hd => h.ok d (List.mem_of_mem_take hd)
  have glen : (bs.take w).length = w := by rw [List.length_take]; omega
  have txg : ((txt bs).take kk).take (txt (bs.take w)).length = txt (bs.take w) := by rw [hp, List.take_left]
  have txl : (txt (bs.take w)).length ≤ ((txt bs).take kk).length := by rw [hp, List.length_append]; omega
  have etk := ends_take bs 0 w
  have etf : ((endsL bs 0).map fun e : Nat => D.int (e : Int)).take w = (endsL (bs.take w) 0).map fun e : Nat => D.int (e : Int) := by rw [← List.map_take, etk]
  generalize hG : bs.take w = gs at *
  have log2' : S2[lg]? = some (.ins "Log" (LgF ((txt bs).take kk) sf bs.length sc)) := log2
  have lm2 := lf_m (t := (txt bs).take kk) (s := sf) (c := bs.length) (sc := sc) (x := "recover") (by simp)
  have f1 := fl "text" (by simp)
  generalize hS3 : S2.set lg (.ins "Log" (LgF (txt gs) ((txt gs).length : Int) (gs.length : Int) (gs.length : Int))) = S3 at *
  have nt := ne_S (okt.take kk) (okt.take kk)
  rw [decide_eq_true rfl] at nt
  have g3 : ∀ j, j ≠ lg → S3[j]? = S2[j]? := fun j hj => by rw [← hS3]; exact List.getElem?_set_ne (Ne.symm hj)
  have m3 : S3[mm]? = some (.con (.lst [.ref ma, .ref mb, .str (S ((txt bs).take kk)), .int (sf : Int)])) := by rw [g3 _ (by omega)]; exact m2
  have a3 : S3[ma]? = some (.con (.lst bs)) := by rw [g3 _ (by omega)]; exact a2
  have b3 : S3[mb]? = some (.con (.lst ((endsL bs 0).map fun e : Nat => D.int (e : Int)))) := by rw [g3 _ (by omega)]; exact b2
  have log3 : Lg S3 lg (txt gs) ((txt gs).length : Int) (gs.length : Int) (gs.length : Int) := by rw [← hS3]; exact Lg.set log2
  have r3 : Rd S3 st c := Rd.of r2 (g3 _ (by omega)) (g3 _ (by omega))
  have l3 : S3.length = S2.length := by rw [← hS3, List.length_set]
  have cutW : ∀ {α : Type} (xs : List α), cutL xs none (some (w : Int)) = xs.take w := fun xs => by
    unfold cutL
    have e1 : HT.sIx xs.length 0 none = 0 := rfl
    rw [e1, sIx_nat, List.drop_zero, Nat.sub_zero]
    by_cases z : w ≤ xs.length
    · rw [Nat.min_eq_left z]
    · rw [Nat.min_eq_right (by omega), List.take_of_length_le (Nat.le_refl _), List.take_of_length_le (by omega)]
  have slb : slD (.lst bs) none (some (w : Int)) = some (.lst gs) := by
    show some (D.lst (cutL bs none (some (w : Int)))) = _
    rw [cutW, hG]
  have pg : (D.lst gs).plain = true := by
    rw [D.plain]
    exact plains_ok gs (okDs_of fun d hd => (gok d hd).ok)
  have dg' : (D.lst gs).dp ≤ 60 := by
    rw [D.dp]
    have : dps gs ≤ 5 := by
      clear hG pg slb a3 log3 hS3 etf txg txl rcv hp glen etk
      induction gs with
      | nil => rw [dps]; omega
      | cons d ds ih =>
        rw [dps]
        exact Nat.max_le.mpr ⟨(gok d List.mem_cons_self).dp, ih fun x hx => gok x (List.mem_cons_of_mem _ hx)⟩
    omega
  have ng := ne_self (fit_dp pg dg')
  have q3 : evS (Z.run T (N + 3)) law_fallen3 (Ef lg mm k (.fz (.int (w : Int)))) S2 = some (.nxt (Ef lg mm k (.fz (.int (w : Int)))) S3) := by
    simp -implicitDefEqProofs [law_fallen3, hOf, Cst.d, log2', lf_text, lm2, f1, m2, m3, ix0, ix2, nt, rcv, a3, ixO, slb, ng]
  -- the law's own batches and ends
  have nw : S3.length ≠ mm := by have := (List.getElem?_eq_some_iff.mp m3).1; omega
  generalize hS4 : (S3 ++ [Cell.con (.lst gs)]).set mm (.con (.lst [.ref S3.length, .ref mb, .str (S ((txt bs).take kk)), .int (sf : Int)])) = S4
  have q4 : evS (Z.run T (N + 3)) law_fallen4 (Ef lg mm k (.fz (.int (w : Int)))) S3 = some (.nxt (Ef lg mm k (.fz (.int (w : Int)))) S4) := by
    have m3' : (S3 ++ [Cell.con (.lst gs)])[mm]? = some (.con (.lst [.ref ma, .ref mb, .str (S ((txt bs).take kk)), .int (sf : Int)])) := by
      rw [List.getElem?_append_left (List.getElem?_eq_some_iff.mp m3).1]; exact m3
    have cu : cutL bs none (some (w : Int)) = gs := by rw [cutW, hG]
    simp -implicitDefEqProofs [law_fallen4, hOf, Cst.d, m3, ix0, a3, ixO, cu, newRef, m3', st0, putC, setC, hS4]
  have lt3 := (List.getElem?_eq_some_iff.mp m3).1
  have lb3 := (List.getElem?_eq_some_iff.mp b3).1
  have g4 : ∀ j, j < S3.length → j ≠ mm → S4[j]? = S3[j]? := fun j hj hm => by
    rw [← hS4, List.getElem?_set_ne (Ne.symm hm), List.getElem?_append_left hj]
  have m4 : S4[mm]? = some (.con (.lst [.ref S3.length, .ref mb, .str (S ((txt bs).take kk)), .int (sf : Int)])) := by
    rw [← hS4]; exact List.getElem?_set_self (by simp; omega)
  have a4 : S4[S3.length]? = some (.con (.lst gs)) := by
    rw [← hS4, List.getElem?_set_ne (Ne.symm nw), List.getElem?_append_right (Nat.le_refl _)]; simp
  have b4 : S4[mb]? = some (.con (.lst ((endsL bs 0).map fun e : Nat => D.int (e : Int)))) := by rw [g4 _ lb3 n8]; exact b3
  have l4 : S4.length = S3.length + 1 := by rw [← hS4]; simp
  generalize hS5 : (S4 ++ [Cell.con (.lst ((endsL gs 0).map fun e : Nat => D.int (e : Int)))]).set mm (.con (.lst [.ref S3.length, .ref S4.length, .str (S ((txt bs).take kk)), .int (sf : Int)])) = S5
  have q5 : evS (Z.run T (N + 3)) law_fallen5 (Ef lg mm k (.fz (.int (w : Int)))) S4 = some (.nxt (Ef lg mm k (.fz (.int (w : Int)))) S5) := by
    have m4' : (S4 ++ [Cell.con (.lst ((endsL gs 0).map fun e : Nat => D.int (e : Int)))])[mm]? = some (.con (.lst [.ref S3.length, .ref mb, .str (S ((txt bs).take kk)), .int (sf : Int)])) := by
      rw [List.getElem?_append_left (List.getElem?_eq_some_iff.mp m4).1]; exact m4
    have cu : cutL ((endsL bs 0).map fun e : Nat => D.int (e : Int)) none (some (w : Int)) = (endsL gs 0).map fun e : Nat => D.int (e : Int) := by rw [cutW, etf]
    simp -implicitDefEqProofs [law_fallen5, hOf, Cst.d, m4, ix1, b4, ixO, cu, newRef, m4', st1, putC, setC, hS5]
  have lt4 := (List.getElem?_eq_some_iff.mp m4).1
  have g5 : ∀ j, j < S4.length → j ≠ mm → S5[j]? = S4[j]? := fun j hj hm => by
    rw [← hS5, List.getElem?_set_ne (Ne.symm hm), List.getElem?_append_left hj]
  have m5 : S5[mm]? = some (.con (.lst [.ref S3.length, .ref S4.length, .str (S ((txt bs).take kk)), .int (sf : Int)])) := by
    rw [← hS5]; exact List.getElem?_set_self (by simp; omega)
  have a5 : S5[S3.length]? = some (.con (.lst gs)) := by rw [g5 _ (by omega) nw]; exact a4
  have b5 : S5[S4.length]? = some (.con (.lst ((endsL gs 0).map fun e : Nat => D.int (e : Int)))) := by
    rw [← hS5, List.getElem?_set_ne (by omega), List.getElem?_append_right (Nat.le_refl _)]; simp
  -- the text up to the greatest end
  have mxv : bltD .max [.lst ((endsL gs 0).map (fun e : Nat => D.int (e : Int)) ++ [.int 0])] = some (.int ((txt gs).length : Int)) := by
    cases hgs : gs with
    | nil => rfl
    | cons d ds =>
      have e1 : (endsL (d :: ds) 0).map (fun e : Nat => D.int (e : Int)) ++ [.int 0] = ((((0 + (rc d).length : Nat) : Int)) :: ((endsL ds (0 + (rc d).length)).map (fun e : Nat => (e : Int)) ++ [0])).map D.int := by
        simp [endsL]
      rw [e1, max_ints, List.foldl_append, foldl_cast, ends_max ds _ _ (Nat.le_refl _)]
      simp only [List.foldl_cons, List.foldl_nil]
      congr 2
      rw [txt_cons, List.length_append]
      split
      · rename_i hh; subst hh; simp [txt]
      · omega
  have s6 := sl0_S (l := (txt bs).take kk) (by omega) (txt gs).length
  rw [txg] at s6
  generalize hS6 : S5.set mm (.con (.lst [.ref S3.length, .ref S4.length, .str (S (txt gs)), .int (sf : Int)])) = S6
  have lbs : ((endsL gs 0).map (fun e : Nat => D.int (e : Int))).length + 1 ≤ sizeLine := by
    rw [List.length_map, ends_len, glen]; omega
  have q6 : evS (Z.run T (N + 3)) law_fallen6 (Ef lg mm k (.fz (.int (w : Int)))) S5 = some (.nxt (Ef lg mm k (.fz (.int (w : Int)))) S6) := by
    have one : (1 : Nat) ≤ sizeLine := by omega
    simp only [List.length_map] at lbs
    simp -implicitDefEqProofs [law_fallen6, hOf, Cst.d, m5, ix1, ix2, b5, binD, lbs, one, mxv, ixO, s6, st2, putC, setC, hS6]
  have g6 : ∀ j, j ≠ mm → S6[j]? = S5[j]? := fun j hj => by rw [← hS6]; exact List.getElem?_set_ne (Ne.symm hj)
  have m6 : S6[mm]? = some (.con (.lst [.ref S3.length, .ref S4.length, .str (S (txt gs)), .int (sf : Int)])) := by
    rw [← hS6]; exact List.getElem?_set_self (List.getElem?_eq_some_iff.mp m5).1
  have ln7 := len_S (l := txt gs) (by omega)
  generalize hS7 : S6.set mm (.con (.lst [.ref S3.length, .ref S4.length, .str (S (txt gs)), .int ((txt gs).length : Int)])) = S7
  have q7 : evS (Z.run T (N + 3)) law_fallen7 (Ef lg mm k (.fz (.int (w : Int)))) S6 = some (.nxt (Ef lg mm k (.fz (.int (w : Int)))) S7) := by
    simp -implicitDefEqProofs [law_fallen7, hOf, Cst.d, m6, ix2, ln7, st3, putC, setC, hS7]
  have g7 : ∀ j, j ≠ mm → S7[j]? = S6[j]? := fun j hj => by rw [← hS7]; exact List.getElem?_set_ne (Ne.symm hj)
  have m7 : S7[mm]? = some (.con (.lst [.ref S3.length, .ref S4.length, .str (S (txt gs)), .int ((txt gs).length : Int)])) := by
    rw [← hS7]; exact List.getElem?_set_self (List.getElem?_eq_some_iff.mp m6).1
  have lg3 : lg < S3.length := (List.getElem?_eq_some_iff.mp log3).1
  have far : ∀ j, j ≤ lg → S7[j]? = S3[j]? := fun j hj => by
    rw [g7 _ (by omega), g6 _ (by omega), g5 _ (by omega) (by omega), g4 _ (by omega) (by omega)]
  refine ⟨S7, gs, S3.length, S4.length, (gs.length : Int), ?_, ⟨Rd.of r3 (far _ (by omega)) (far _ (by omega)), by unfold Lg; rw [far _ (Nat.le_refl _)]; exact log3, m7, by rw [g7 _ nw, g6 _ nw]; exact a5, by rw [g7 _ (by omega), g6 _ (by omega)]; exact b5, ⟨n1, n2, n3, lg3, by omega, by omega, nw, by omega⟩, gok⟩, by omega⟩
  rw [run, seq1 q0, seq1 q1, seq1 q2, seq1 q3, seq1 q4, seq1 q5, seq1 q6, seq1 q7]
  simp -implicitDefEqProofs [law_fallen8, Cst.d]
  rfl
end
end K50

set_option Elab.async false
set_option linter.all false
set_option maxRecDepth 100000
set_option maxHeartbeats 2000000
namespace K50
open PySem PySem.Spec PyProof.Rows L2 Z Tx
def law3b1t0 : Z.Sm := (.asg (.nm 6) (.comp (.nm 8) (.rng (.bin .Add (.cst (.int 1)) (.call "_law_take" (.cons (.var 1) (.cons (.cst (.int 3)) .nil))))) .nil (.call "_law_change" (.cons (.var 1) .nil))))
def law3b1t1 : Z.Sm := (.asg (.nm 7) (.blt .repr (.cons (.var 6) .nil)))
def law3b1t2 : Z.Sm := (.expr (.meth (.var 2) "write" (.cons (.var 6) .nil)))
def law3b1t3t0 : Z.Sm := (.ret (.cst (.bl false)))
def law3b1t3t : Sms := (.cons law3b1t3t0 .nil)
def law3b1t3 : Z.Sm := (.ife (.or (.cmp .NotEq (.blt .repr (.cons (.var 6) .nil)) (.var 7)) (.or (.cmp .NotEq (.call "record_of" (.cons (.var 6) .nil)) (.call "_law_record" (.cons (.var 6) .nil))) (.cmp .NotEq (.call "written" (.cons (.var 6) .nil)) (.call "_law_form" (.cons (.var 6) .nil))))) law3b1t3t .nil)
def law3b1t4 : Z.Sm := (.app (.idx (.var 3) (.cst (.int 0))) (.var 6))
def law3b1t5 : Z.Sm := (.seti (.var 3) (.cst (.int 2)) (.bin .Add (.idx (.var 3) (.cst (.int 2))) (.call "_law_record" (.cons (.var 6) .nil))))
def law3b1t6 : Z.Sm := (.app (.idx (.var 3) (.cst (.int 1))) (.blt .len (.cons (.idx (.var 3) (.cst (.int 2))) .nil)))
def law3b1t : Sms := (.cons law3b1t0 (.cons law3b1t1 (.cons law3b1t2 (.cons law3b1t3 (.cons law3b1t4 (.cons law3b1t5 (.cons law3b1t6 .nil)))))))
def law3b1e0t0 : Z.Sm := (.expr (.meth (.var 2) "make_safe" .nil))
def law3b1e0t1 : Z.Sm := (.seti (.var 3) (.cst (.int 3)) (.blt .len (.cons (.idx (.var 3) (.cst (.int 2))) .nil)))
def law3b1e0t : Sms := (.cons law3b1e0t0 (.cons law3b1e0t1 .nil))
def law3b1e0e0t0 : Z.Sm := (.ret (.cst (.bl false)))
def law3b1e0e0t : Sms := (.cons law3b1e0e0t0 .nil)
def law3b1e0e0 : Z.Sm := (.ife (.not (.call "_law_fallen" (.cons (.var 2) (.cons (.var 3) (.cons (.idx (.list (.cons (.cst (.int 0)) (.cons (.cst (.int 1)) (.cons (.call "_law_take" (.cons (.var 1) (.cons (.cst (.int 80)) .nil))) (.cons (.cst (.int 100000)) .nil))))) (.call "_law_take" (.cons (.var 1) (.cons (.cst (.int 4)) .nil)))) .nil))))) law3b1e0e0t .nil)
def law3b1e0e : Sms := (.cons law3b1e0e0 .nil)
def law3b1e0 : Z.Sm := (.ife (.cmp .Eq (.var 5) (.cst (.int 3))) law3b1e0t law3b1e0e)
def law3b1e : Sms := (.cons law3b1e0 .nil)

theorem law3b1_eq : law3b1 = .ife (.cmp .Lt (.var 5) (.cst (.int 3))) law3b1t law3b1e := rfl
theorem range_items (k : Nat) : rngD 0 k = (List.range k).map fun j : Nat => D.int ((j : Nat) : Int) := by
  unfold rngD
  refine List.map_congr_left fun j _ => ?_
  rw [Int.zero_add]
theorem smallI_of {i : Int} (h : 0 ≤ i ∧ i < 1000000) : smallI i = true := by
  unfold smallI
  simp only [Bool.and_eq_true, decide_eq_true_eq]
  have : (1000000 : Int) < 2 ^ 62 := by decide
  have : -(2 ^ 62 : Int) ≤ 0 := by decide
  omega
theorem rng_ev {G : Fns} {e : Ex} {ρ : Env'} {S S1 : Store} {v : Int} (h : evE G e ρ S = some (.int v, S1)) (h0 : 0 ≤ v ∧ v < 1000000) : evI G (.rng e) ρ S = some (.val .non, (List.range v.toNat).map (fun j : Nat => D.int ((j : Nat) : Int)), S1) := by
  rw [x_evI_rng, h]
  simp only [bnd_some, intOf_int, smallI_of h0, if_true, range_items]
section
variable {St S' : Store} {N st c lg ma mb mm sf : Nat} {bs : List D} {sc : Int}
theorem batch_ok (h : Rd St st c) (x4 x5 x6 x7 : Z.Slot) : ∃ d S', BaOk d ∧ Wnt st c St S' ∧ evS (Z.run T 19) law3b1t0 (E st lg mm x4 x5 x6 x7 .un) St = some (.nxt (E st lg mm x4 x5 (.fz d) x7 .un) S') := by
  obtain ⟨v, S1, e1, v0, v1, w1⟩ := take (N := 18) h 3 (by decide) (by decide)
  have e1 : runF T 19 ("_law_take", none) [.ref st, .int 3] St = some (.int v, S1) := e1
  have hi : evI (Z.run T 19) (.rng (.bin .Add (.cst (.int 1)) (.call "_law_take" (.cons (.var 1) (.cons (.cst (.int 3)) .nil))))) (E st lg mm x4 x5 x6 x7 .un) St = some (.val .non, (List.range (1 + v).toNat).map (fun j : Nat => D.int ((j : Nat) : Int)), S1) := by
    refine rng_ev ?_ (by omega)
    simp -implicitDefEqProofs [hOf, Cst.d, e1, binD]
  obtain ⟨ys, S2, e2, w2, q2, l2⟩ := comp_inv (G := Z.run T 19) (t := .nm 8) (c := .nil) (e := .call "_law_change" (.cons (.var 1) .nil)) (ρ := E st lg mm x4 x5 x6 x7 .un) (I := fun S => Wnt st c S1 S) (Q := fun ys => ∀ d ∈ ys, ChOk d) rfl (fun n z => by cases z) hi (Wnt.refl w1.1) (by simp) (fun x hx S w => by
      obtain ⟨d, S3, ok, e3, w3⟩ := change_ok (N := 17) w.1
      have e3 : runF T 19 ("_law_change", none) [.ref st] S = some (d, S3) := e3
      refine ⟨some d, S3, ?_, w.trans w3, fun ys hy z hz => ?_⟩
      · unfold stepC
        have wi : wipeS (E st lg mm x4 x5 x6 x7 .un) (Tg.nm 8).ix = E st lg mm x4 x5 x6 x7 .un := rfl
        rw [wi]
        simp -implicitDefEqProofs [bindT, hOf, e3]
        try rfl
      · simp at hz
        rcases hz with rfl | hz
        · exact ok
        · exact hy z hz) (by rw [List.length_map, List.length_range]; have := big; omega)
  rw [List.length_map, List.length_range] at l2
  refine ⟨.lst ys, S2, ba_ok q2 (by omega), w1.trans w2, ?_⟩
  unfold law3b1t0
  simp -implicitDefEqProofs [hOf, e2, bindT]
theorem cont_ok {d : D} (h : okD d = true) {ρ : Env'} {S : Store} : cont ρ S (.val d) = some d := by
  have := plain_ok d h
  cases d <;> first | rfl | cases this
theorem ends_w (h : Sta St st c lg ma mb mm bs sf sc) (d : D) : (endsL (bs ++ [d]) 0).map (fun e : Nat => D.int (e : Int)) = (endsL bs 0).map (fun e : Nat => D.int (e : Int)) ++ [.int ((txt (bs ++ [d])).length : Int)] := by
  rw [ends_app, List.map_append, txt_app]
  congr 3
  simp [txt]
theorem b1t_ok (h : Sta St st c lg ma mb mm bs sf sc) (hn : bs.length ≤ 14) (x4 x5 x6 x7 : Z.Slot) :
    ∃ S' d x7', Sta S' st c lg ma mb mm (bs ++ [d]) sf sc ∧ evSs (Z.run T 19) law3b1t (E st lg mm x4 x5 x6 x7 .un) St = some (.nxt (E st lg mm x4 x5 (.fz d) x7' .un) S') := by
  have bg := big
  obtain ⟨d, S1, ok, w1, q0⟩ := batch_ok (lg := lg) (mm := mm) h.rd x4 x5 x6 x7
  have h1 := h.wnt w1
  obtain ⟨n1, n2, n3, n4, n5, n6, n7, n8⟩ := h1.ne
  obtain ⟨x, er, ox⟩ := ok.re
  have cd := fun {ρ : Env'} {S : Store} => cont_ok (ρ := ρ) (S := S) ok.ok
  have tl := txt_len bs h1.ok
  have dpl := ok.dp
  have wl := ok.len
  have q1 : evS (Z.run T 19) law3b1t1 (E st lg mm x4 x5 (.fz d) x7 .un) S1 = some (.nxt (E st lg mm x4 x5 (.fz d) (.fz (.str x)) .un) S1) := by
    simp -implicitDefEqProofs [law3b1t1, hOf, cd, er, bindT]
  have ew := write_ok (N := 17) h1.log d ok.ok (by omega) (by omega) (by omega)
  have ew : runF T 19 ("Log", some "write") [.ref lg, d] S1 = some (.non, S1.set lg (.ins "Log" (LgF (txt bs ++ rc d) sf ((bs.length : Int) + 1) sc))) := ew
  have hlog : S1[lg]? = some (.ins "Log" (LgF (txt bs) sf bs.length sc)) := h1.log
  have lm := lf_m (t := txt bs) (s := sf) (c := bs.length) (sc := sc) (x := "write") (by simp)
  generalize hS2 : S1.set lg (.ins "Log" (LgF (txt bs ++ rc d) sf ((bs.length : Int) + 1) sc)) = S2 at ew
  have q2 : evS (Z.run T 19) law3b1t2 (E st lg mm x4 x5 (.fz d) (.fz (.str x)) .un) S1 = some (.nxt (E st lg mm x4 x5 (.fz d) (.fz (.str x)) .un) S2) := by
    simp -implicitDefEqProofs [law3b1t2, hOf, hlog, lm, cd, ew]
  have g2 : ∀ j, j ≠ lg → S2[j]? = S1[j]? := fun j hj => by rw [← hS2]; exact List.getElem?_set_ne (Ne.symm hj)
  have log2 : Lg S2 lg (txt bs ++ rc d) sf ((bs.length : Int) + 1) sc := by rw [← hS2]; exact Lg.set h1.log
  have m2 : S2[mm]? = some (.con (.lst [.ref ma, .ref mb, .str (S (txt bs)), .int (sf : Int)])) := by rw [g2 _ (by omega)]; exact h1.m
  have a2 : S2[ma]? = some (.con (.lst bs)) := by rw [g2 _ (by omega)]; exact h1.a
  have b2 : S2[mb]? = some (.con (.lst ((endsL bs 0).map fun e : Nat => D.int (e : Int)))) := by rw [g2 _ (by omega)]; exact h1.b
  have nx := ne_self (fit_dp (d := .str x) ox (by rw [D.dp]; omega))
  have e3 : runF T 19 ("record_of", none) [d] S2 = some (.str (S (rc d)), S2) := record_ok (N := 18) d (by omega) ok.ok (by omega)
  have e4 : runF T 19 ("_law_record", none) [d] S2 = some (.str (S (rc d)), S2) := lrecord_ok (N := 18) d (by omega) ok.ok (by omega)
  have e5 : runF T 19 ("written", none) [d] S2 = some (.str (S (wr d)), S2) := written_ok 19 d (by omega) ok.ok (by omega)
  have e6 : runF T 19 ("_law_form", none) [d] S2 = some (.str (S (wr d)), S2) := form_ok 19 d (by omega) ok.ok (by omega)
  have r1 := ne_S (rc_ok d ok.ok) (rc_ok d ok.ok)
  have r2 := ne_S (wr_ok d ok.ok) (wr_ok d ok.ok)
  rw [decide_eq_true rfl] at r1 r2
  have q3 : evS (Z.run T 19) law3b1t3 (E st lg mm x4 x5 (.fz d) (.fz (.str x)) .un) S2 = some (.nxt (E st lg mm x4 x5 (.fz d) (.fz (.str x)) .un) S2) := by
    simp -implicitDefEqProofs [law3b1t3, hOf, cd, er, nx, e3, e4, e5, e6, r1, r2]
  have ix0 : ∀ (a b e f : D), idxD (.lst [a, b, e, f]) (.int 0) = some a := fun a b e f => rfl
  have ix1 : ∀ (a b e f : D), idxD (.lst [a, b, e, f]) (.int 1) = some b := fun a b e f => rfl
  have ix2 : ∀ (a b e f : D), idxD (.lst [a, b, e, f]) (.int 2) = some e := fun a b e f => rfl
  have st2 : ∀ (a b e f x : D), setItem' (.lst [a, b, e, f]) (.int 2) x = some (.lst [a, b, x, f]) := fun a b e f x => rfl
  have la : bs.length < sizeLine := by omega
  generalize hS3 : S2.set ma (.con (.lst (bs ++ [d]))) = S3
  have q4 : evS (Z.run T 19) law3b1t4 (E st lg mm x4 x5 (.fz d) (.fz (.str x)) .un) S2 = some (.nxt (E st lg mm x4 x5 (.fz d) (.fz (.str x)) .un) S3) := by
    simp -implicitDefEqProofs [law3b1t4, hOf, Cst.d, m2, ix0, a2, isLst, cd, la, putC, setC, hS3]
  have g3 : ∀ j, j ≠ ma → S3[j]? = S2[j]? := fun j hj => by rw [← hS3]; exact List.getElem?_set_ne (Ne.symm hj)
  have m3 : S3[mm]? = some (.con (.lst [.ref ma, .ref mb, .str (S (txt bs)), .int (sf : Int)])) := by rw [g3 _ (Ne.symm n7)]; exact m2
  have a3 : S3[ma]? = some (.con (.lst (bs ++ [d]))) := by rw [← hS3]; exact List.getElem?_set_self (List.getElem?_eq_some_iff.mp a2).1
  have b3 : S3[mb]? = some (.con (.lst ((endsL bs 0).map fun e : Nat => D.int (e : Int)))) := by rw [g3 _ (Ne.symm n6)]; exact b2
  have rl := ba_rc ok
  have ad := add_S (a := txt bs) (b := rc d) (by omega)
  have e7 : runF T 19 ("_law_record", none) [d] S3 = some (.str (S (rc d)), S3) := lrecord_ok (N := 18) d (by omega) ok.ok (by omega)
  generalize hS4 : S3.set mm (.con (.lst [.ref ma, .ref mb, .str (S (txt bs ++ rc d)), .int (sf : Int)])) = S4
  have q5 : evS (Z.run T 19) law3b1t5 (E st lg mm x4 x5 (.fz d) (.fz (.str x)) .un) S3 = some (.nxt (E st lg mm x4 x5 (.fz d) (.fz (.str x)) .un) S4) := by
    simp -implicitDefEqProofs [law3b1t5, hOf, Cst.d, m3, ix2, cd, e7, ad, st2, putC, setC, hS4]
  have g4 : ∀ j, j ≠ mm → S4[j]? = S3[j]? := fun j hj => by rw [← hS4]; exact List.getElem?_set_ne (Ne.symm hj)
  have m4 : S4[mm]? = some (.con (.lst [.ref ma, .ref mb, .str (S (txt bs ++ rc d)), .int (sf : Int)])) := by rw [← hS4]; exact List.getElem?_set_self (List.getElem?_eq_some_iff.mp m3).1
  have b4 : S4[mb]? = some (.con (.lst ((endsL bs 0).map fun e : Nat => D.int (e : Int)))) := by rw [g4 _ n8]; exact b3
  have ln := len_S (l := txt bs ++ rc d) (by simp; omega)
  have lb : ((endsL bs 0).map fun e : Nat => D.int (e : Int)).length < sizeLine := by rw [List.length_map, ends_len]; omega
  generalize hS5 : S4.set mb (.con (.lst ((endsL bs 0).map (fun e : Nat => D.int (e : Int)) ++ [.int ((txt bs ++ rc d).length : Int)]))) = S5
  have q6 : evS (Z.run T 19) law3b1t6 (E st lg mm x4 x5 (.fz d) (.fz (.str x)) .un) S4 = some (.nxt (E st lg mm x4 x5 (.fz d) (.fz (.str x)) .un) S5) := by
    rw [List.length_map] at lb
    simp -implicitDefEqProofs [-List.length_append, law3b1t6, hOf, Cst.d, m4, ix1, ix2, b4, isLst, ln, lb, putC, setC, hS5]
  have g5 : ∀ j, j ≠ mb → S5[j]? = S4[j]? := fun j hj => by rw [← hS5]; exact List.getElem?_set_ne (Ne.symm hj)
  have tx : txt (bs ++ [d]) = txt bs ++ rc d := by rw [txt_app]; simp [txt]
  refine ⟨S5, d, .fz (.str x), ⟨?_, ?_, ?_, ?_, ?_, h1.ne, ?_⟩, ?_⟩
  · have far : ∀ j, j < lg → S5[j]? = S1[j]? := fun j hj => by rw [g5 _ (by omega), g4 _ (by omega), g3 _ (by omega), g2 _ (by omega)]
    exact Rd.of h1.rd (far _ n1) (far _ n2)
  · unfold Lg
    rw [g5 _ (by omega), g4 _ (by omega), g3 _ (by omega), tx]
    have : (((bs ++ [d]).length : Nat) : Int) = (bs.length : Int) + 1 := by simp
    rw [this]
    exact log2
  · rw [g5 _ (Ne.symm n8), tx]; exact m4
  · rw [g5 _ n6, g4 _ n7]; exact a3
  · rw [ends_w h1 d, tx, ← hS5]; exact List.getElem?_set_self (List.getElem?_eq_some_iff.mp b4).1
  · intro y hy
    rcases List.mem_append.mp hy with z | z
    · exact h1.ok y z
    · rw [List.mem_singleton.mp z]; exact ok
  · show evSs (Z.run T 19) (.cons law3b1t0 (.cons law3b1t1 (.cons law3b1t2 (.cons law3b1t3 (.cons law3b1t4 (.cons law3b1t5 (.cons law3b1t6 .nil))))))) _ _ = _
    rw [seq1 q0, seq1 q1, seq1 q2, seq1 q3, seq1 q4, seq1 q5, seq1 q6]
    simp only [x_evSs_nil]
theorem turn_ok (h : Sta St st c lg ma mb mm bs sf sc) (hn : bs.length ≤ 14) (x4 x5 x6 x7 : Z.Slot) :
    ∃ S' ma' mb' bs' sf' sc' y5 y6 y7, Sta S' st c lg ma' mb' mm bs' sf' sc' ∧ bs'.length ≤ bs.length + 1 ∧ evSs (Z.run T 19) law3b (E st lg mm x4 x5 x6 x7 .un) St = some (.nxt (E st lg mm x4 y5 y6 y7 .un) S') := by
  have bg := big
  obtain ⟨v, S1, e1, v0, v1, w1⟩ := take (N := 18) h.rd 6 (by decide) (by decide)
  have e1 : runF T 19 ("_law_take", none) [.ref st, .int 6] St = some (.int v, S1) := e1
  have h1 := h.wnt w1
  have q0 : evS (Z.run T 19) law3b0 (E st lg mm x4 x5 x6 x7 .un) St = some (.nxt (E st lg mm x4 (.fz (.int v)) x6 x7 .un) S1) := by
    simp -implicitDefEqProofs [law3b0, hOf, Cst.d, bindT, e1]
  have b2 : ∃ S' ma' mb' bs' sf' sc' y6 y7, Sta S' st c lg ma' mb' mm bs' sf' sc' ∧ bs'.length ≤ bs.length + 1 ∧ evS (Z.run T 19) law3b1 (E st lg mm x4 (.fz (.int v)) x6 x7 .un) S1 = some (.nxt (E st lg mm x4 (.fz (.int v)) y6 y7 .un) S') := by
    rw [law3b1_eq]
    by_cases c1 : v < 3
    · obtain ⟨S2, d, x7', h2, e2⟩ := b1t_ok h1 hn x4 (.fz (.int v)) x6 x7
      refine ⟨S2, ma, mb, bs ++ [d], sf, sc, .fz d, x7', h2, by simp, ?_⟩
      rw [x_evS_ife]
      simp -implicitDefEqProofs [hOf, Cst.d, lt_ii, c1, e2]
    · by_cases c2 : v = 3
      · subst c2
        have ms : runF T 19 ("Log", some "make_safe") [.ref lg] S1 = some (.non, S1.set lg (.ins "Log" (LgF (txt bs) ((txt bs).length : Int) bs.length bs.length))) := make_safe_ok (N := 18) h1.log (by have := txt_len bs h1.ok; omega)
        have hlog : S1[lg]? = some (.ins "Log" (LgF (txt bs) sf bs.length sc)) := h1.log
        have lm := lf_m (t := txt bs) (s := sf) (c := bs.length) (sc := sc) (x := "make_safe") (by simp)
        obtain ⟨n1, n2, n3, n4, n5, n6, n7, n8⟩ := h1.ne
        generalize hS2 : S1.set lg (.ins "Log" (LgF (txt bs) ((txt bs).length : Int) bs.length bs.length)) = S2 at ms
        have g2 : ∀ j, j ≠ lg → S2[j]? = S1[j]? := fun j hj => by rw [← hS2]; exact List.getElem?_set_ne (Ne.symm hj)
        have log2 : Lg S2 lg (txt bs) ((txt bs).length : Int) bs.length bs.length := by rw [← hS2]; exact Lg.set h1.log
        have m2 : S2[mm]? = some (.con (.lst [.ref ma, .ref mb, .str (S (txt bs)), .int (sf : Int)])) := by rw [g2 _ (by omega)]; exact h1.m
        have ix2 : ∀ (a b e f : D), idxD (.lst [a, b, e, f]) (.int 2) = some e := fun a b e f => rfl
        have st3 : ∀ (a b e f x : D), setItem' (.lst [a, b, e, f]) (.int 3) x = some (.lst [a, b, e, x]) := fun a b e f x => rfl
        have ln := len_S (l := txt bs) (by have := txt_len bs h1.ok; omega)
        generalize hS3 : S2.set mm (.con (.lst [.ref ma, .ref mb, .str (S (txt bs)), .int ((txt bs).length : Int)])) = S3
        have g3 : ∀ j, j ≠ mm → S3[j]? = S2[j]? := fun j hj => by rw [← hS3]; exact List.getElem?_set_ne (Ne.symm hj)
        refine ⟨S3, ma, mb, bs, (txt bs).length, bs.length, x6, x7, ⟨Rd.of h1.rd (by rw [g3 _ (by omega), g2 _ (by omega)]) (by rw [g3 _ (by omega), g2 _ (by omega)]), ?_, ?_, ?_, ?_, h1.ne, h1.ok⟩, by omega, ?_⟩
        · unfold Lg; rw [g3 _ (by omega)]; exact log2
        · rw [← hS3]; exact List.getElem?_set_self (List.getElem?_eq_some_iff.mp m2).1
        · rw [g3 _ n7, g2 _ (by omega)]; exact h1.a
        · rw [g3 _ n8, g2 _ (by omega)]; exact h1.b
        · rw [x_evS_ife]
          simp -implicitDefEqProofs [law3b1e, law3b1e0, law3b1e0t, law3b1e0t0, law3b1e0t1, hOf, Cst.d, lt_ii, eq_ii, hlog, lm, ms, m2, ix2, ln, st3, putC, setC, hS3]
      · obtain ⟨w, S2, e2, p0, p1, w2⟩ := take (N := 18) h1.rd 80 (by decide) (by decide)
        have e2 : runF T 19 ("_law_take", none) [.ref st, .int 80] S1 = some (.int w, S2) := e2
        obtain ⟨i, S3, e3, i0, i1, w3⟩ := take (N := 18) w2.1 4 (by decide) (by decide)
        have e3 : runF T 19 ("_law_take", none) [.ref st, .int 4] S2 = some (.int i, S3) := e3
        have h3 := h1.wnt (w2.trans w3)
        obtain ⟨y, hy, ey⟩ := Z.atI_in (f := D.int) (xs := [0, 1, w, 100000]) (v := i) ⟨i0, by simp; omega⟩
        have ey : atI [D.int 0, D.int 1, D.int w, D.int 100000] i = some (D.int y) := ey
        have y0 : 0 ≤ y := by
          simp at hy
          rcases hy with rfl | rfl | rfl | rfl <;> omega
        obtain ⟨k, rfl⟩ : ∃ k : Nat, y = (k : Int) := ⟨y.toNat, by omega⟩
        obtain ⟨S4, gs, ma', mb', sc', e4, h4, l4⟩ := fallen_ok (N := 15) h3 (by omega) k (by omega)
        have e4 : runF T 19 ("_law_fallen", none) [.ref lg, .ref mm, .int (k : Int)] S3 = some (.bl true, S4) := e4
        refine ⟨S4, ma', mb', gs, _, sc', x6, x7, h4, by omega, ?_⟩
        have sz := szs
        rw [x_evS_ife]
        simp -implicitDefEqProofs [law3b1e, law3b1e0, law3b1e0e, law3b1e0e0, hOf, Cst.d, lt_ii, eq_ii, c1, c2, e2, e3, ey, sz, e4]
  obtain ⟨S2, ma', mb', bs', sf', sc', y6, y7, h2, l2, q1⟩ := b2
  refine ⟨S2, ma', mb', bs', sf', sc', .fz (.int v), y6, y7, h2, l2, ?_⟩
  have hlog : S2[lg]? = some (.ins "Log" (LgF (txt bs') sf' bs'.length sc')) := h2.log
  have hm := h2.m
  have ha := h2.a
  have f1 := fl "text" (by simp)
  have f2 := fl "safe" (by simp)
  have f3 := fl "count" (by simp)
  have ix0 : ∀ (a b e f : D), idxD (.lst [a, b, e, f]) (.int 0) = some a := fun a b e f => rfl
  have ix2 : ∀ (a b e f : D), idxD (.lst [a, b, e, f]) (.int 2) = some e := fun a b e f => rfl
  have ix3 : ∀ (a b e f : D), idxD (.lst [a, b, e, f]) (.int 3) = some f := fun a b e f => rfl
  have okt := txt_ok bs' fun d hd => (h2.ok d hd).ok
  have nt := ne_S okt okt
  rw [decide_eq_true rfl] at nt
  have ni : ∀ z : Int, cmpD .NotEq (.int z) (.int z) = some false := fun z => by rw [ne_ii]; simp
  have lb : bltD .len [.lst bs'] = some (.int (bs'.length : Int)) := rfl
  have q2 : evS (Z.run T 19) law3b2 (E st lg mm x4 (.fz (.int v)) y6 y7 .un) S2 = some (.nxt (E st lg mm x4 (.fz (.int v)) y6 y7 .un) S2) := by
    simp -implicitDefEqProofs [law3b2, hOf, Cst.d, hlog, lf_text, lf_safe, lf_count, f1, f2, f3, hm, ha, ix0, ix2, ix3, nt, ni, lb]
  show evSs (Z.run T 19) (.cons law3b0 (.cons law3b1 (.cons law3b2 .nil))) _ _ = _
  rw [seq1 q0, seq1 q1, seq1 q2]
  simp only [x_evSs_nil]
end
theorem ev (ns : List Int) (hl : ns.length ≤ 63) : ∃ S', runF conf.prog 20 ("law", none) [.ref 0] [.lck (.lst (ns.map D.int))] = some (.bl true, S') := by
  have bg := big
  show ∃ S', runF T (19 + 1) ("law", none) [.ref 0] [.lck (.lst (ns.map D.int))] = some (.bl true, S')
  rw [run_def at_law [.ref 0] _ rfl]
  show ∃ S', (evSs (Z.run T 19) b_law [.fz (.ref 0), .un, .un, .un, .un, .un, .un, .un, .un] [.lck (.lst (ns.map D.int))]).bind outR = _
  have tb : b_law = .cons law0 (.cons law1 (.cons law2 (.cons law3 (.cons law4 .nil)))) := rfl
  rw [tb]
  obtain ⟨st, c, S1, cs, e0, R, _, _, _⟩ := Z.state_ok at__law_state (n := 18) (S := [.lck (.lst (ns.map D.int))]) (ns := ns) rfl hl
  have e0 : runF T 19 ("_law_state", none) [.ref 0] [.lck (.lst (ns.map D.int))] = some (.ref st, S1) := e0
  have q0 : evS (Z.run T 19) law0 [.fz (.ref 0), .un, .un, .un, .un, .un, .un, .un, .un] [.lck (.lst (ns.map D.int))] = some (.nxt [.fz (.ref 0), .fz (.ref st), .un, .un, .un, .un, .un, .un, .un] S1) := by
    unfold law0
    simp -implicitDefEqProofs [e0, bindT]
  have l1 := (List.getElem?_eq_some_iff.mp R.at_).1
  have l2 := (List.getElem?_eq_some_iff.mp R.row).1
  have rd1 : Rd S1 st c := ⟨_, _, R⟩
  clear R e0
  -- the log
  have f1 := fl "text" (by simp)
  have f2 := fl "safe" (by simp)
  have f3 := fl "count" (by simp)
  have f4 := fl "safe_count" (by simp)
  have ei : runF T 19 ("Log", some "__init__") [.ref S1.length] (S1 ++ [.ins "Log" []]) = some (.non, S1 ++ [.ins "Log" (LgF [] 0 0 0)]) := by
    have run : runF T (18 + 1) ("Log", some "__init__") [.ref S1.length] (S1 ++ [.ins "Log" []]) = (evSs (Z.run T 18) (.cons Log_init0 (.cons Log_init1 (.cons Log_init2 (.cons Log_init3 .nil)))) [.fz (.ref S1.length)] (S1 ++ [.ins "Log" []])).bind outR := by rw [run_def at_Log_init _ _ rfl]; rfl
    have a0 : ∀ cl : Cell, (S1 ++ [cl])[S1.length]? = some cl := fun cl => by rw [List.getElem?_append_right (Nat.le_refl _)]; simp
    have s0 : ∀ c d : Cell, (S1 ++ [c]).set S1.length d = S1 ++ [d] := fun c d => by rw [List.set_append_right _ _ (Nat.le_refl _)]; simp
    show runF T (18 + 1) ("Log", some "__init__") [.ref S1.length] (S1 ++ [.ins "Log" []]) = _
    rw [run]
    simp -implicitDefEqProofs [Log_init0, Log_init1, Log_init2, Log_init3, hOf, Cst.d, setF, setF.fput, a0, s0, f1, f2, f3, f4, n_ts, n_tc, n_sc, n_tx, n_sx, n_cx, outR, LgF, s_e]
  generalize hS2 : S1 ++ [Cell.ins "Log" (LgF [] 0 0 0)] = S2 at ei
  have L2 : S2.length = S1.length + 1 := by rw [← hS2]; simp
  have q1 : evS (Z.run T 19) law1 [.fz (.ref 0), .fz (.ref st), .un, .un, .un, .un, .un, .un, .un] S1 = some (.nxt [.fz (.ref 0), .fz (.ref st), .fz (.ref S1.length), .un, .un, .un, .un, .un, .un] S2) := by
    unfold law1
    simp -implicitDefEqProofs [hOf, ei, bindT]
    try rfl
  have sz := szs
  have z0 : (0 : Nat) ≤ sizeLine := by omega
  generalize hS3 : S2 ++ [Cell.con (.lst []), .con (.lst []), .con (.lst [.ref S2.length, .ref (S2.length + 1), .str (S []), .int 0])] = S3
  have q2 : evS (Z.run T 19) law2 [.fz (.ref 0), .fz (.ref st), .fz (.ref S1.length), .un, .un, .un, .un, .un, .un] S2 = some (.nxt (E st S1.length (S2.length + 2) .un .un .un .un .un) S3) := by
    unfold law2
    simp -implicitDefEqProofs [hOf, Cst.d, bindT, newRef, sz, z0, s_e, hS3]
    try rfl
  have p2 : ∀ j, j < S1.length → S3[j]? = S1[j]? := fun j hj => by
    rw [← hS3, ← hS2, List.append_assoc, List.getElem?_append_left hj]
  have g1 : S3[S1.length]? = some (.ins "Log" (LgF [] 0 0 0)) := by
    rw [← hS3, ← hS2, List.append_assoc, List.getElem?_append_right (Nat.le_refl _)]; simp
  have g2 : S3[S2.length]? = some (.con (.lst [])) := by rw [← hS3, List.getElem?_append_right (Nat.le_refl _)]; simp
  have g3 : S3[S2.length + 1]? = some (.con (.lst [])) := by rw [← hS3, List.getElem?_append_right (by omega)]; simp
  have g4 : S3[S2.length + 2]? = some (.con (.lst [.ref S2.length, .ref (S2.length + 1), .str (S []), .int 0])) := by rw [← hS3, List.getElem?_append_right (by omega)]; simp
  have h3 : Sta S3 st c S1.length S2.length (S2.length + 1) (S2.length + 2) [] 0 0 := ⟨Rd.of rd1 (p2 _ l1) (p2 _ l2), g1, g4, g2, g3, ⟨l1, l2, by omega, by omega, by omega, by omega, by omega, by omega⟩, by simp⟩
  obtain ⟨v, S4, e4, v0, v1, w4⟩ := take (N := 18) h3.rd 15 (by decide) (by decide)
  have e4 : runF T 19 ("_law_take", none) [.ref st, .int 15] S3 = some (.int v, S4) := e4
  have h4 := h3.wnt w4
  have hi : evI (Z.run T 19) (.rng (.call "_law_take" (.cons (.var 1) (.cons (.cst (.int 15)) .nil)))) (E st S1.length (S2.length + 2) .un .un .un .un .un) S3 = some (.val .non, (List.range v.toNat).map (fun j : Nat => D.int ((j : Nat) : Int)), S4) := by
    refine rng_ev ?_ (by omega)
    simp -implicitDefEqProofs [hOf, Cst.d, e4]
  obtain ⟨ρ', S5, e5, ma, mb, bs, sf, sc, x4, x5, x6, x7, rfl, h5, l5⟩ := for_map (G := Z.run T 19) (t := .nm 4) (b := law3b) (fun j : Nat => D.int ((j : Nat) : Int)) (List.range v.toNat)
    (fun p ρ S' => ∃ ma mb bs sf sc x4 x5 x6 x7, ρ = E st S1.length (S2.length + 2) x4 x5 x6 x7 .un ∧ Sta S' st c S1.length ma mb (S2.length + 2) bs sf sc ∧ bs.length ≤ p.length) (fun n z => by cases z) hi ⟨_, _, [], 0, 0, .un, .un, .un, .un, rfl, h4, by simp⟩ (fun p x q hq ρ S hP => by
      obtain ⟨ma, mb, bs, sf, sc, x4, x5, x6, x7, rfl, h, l⟩ := hP
      have pl : p.length < 14 := by
        have := congrArg List.length hq
        simp at this; omega
      obtain ⟨S', ma', mb', bs', sf', sc', y5, y6, y7, h', l', e'⟩ := turn_ok h (by omega) (.fz (.int x)) x5 x6 x7
      exact ⟨_, _, S', rfl, e', ma', mb', bs', sf', sc', _, _, _, _, rfl, h', by rw [List.length_append, List.length_singleton]; omega⟩)
  rw [List.length_range] at l5
  have q3 : evS (Z.run T 19) law3 (E st S1.length (S2.length + 2) .un .un .un .un .un) S3 = some (.nxt (E st S1.length (S2.length + 2) x4 x5 x6 x7 .un) S5) := e5
  have tl := txt_len bs h5.ok
  have hm := h5.m
  have c1 : runF T 19 ("check_of", none) [.str (S (txt bs))] S5 = some (.int (ck (txt bs) : Int), S5) := check_ok (N := 18) _ (by omega)
  have c2 : runF T 19 ("_law_check", none) [.str (S (txt bs))] S5 = some (.int (ck (txt bs) : Int), S5) := lcheck_ok (N := 18) _ (by omega)
  have ix2 : ∀ (a b e f : D), idxD (.lst [a, b, e, f]) (.int 2) = some e := fun a b e f => rfl
  have ei2 : cmpD .Eq (.int (ck (txt bs) : Int)) (.int (ck (txt bs) : Int)) = some true := by rw [eq_ii]; simp
  rw [seq1 q0, seq1 q1, seq1 q2, seq1 q3]
  refine ⟨S5, ?_⟩
  simp -implicitDefEqProofs [law4, hOf, Cst.d, hm, ix2, c1, c2, ei2]
  rfl
end K50

set_option Elab.async false
set_option linter.all false
set_option maxRecDepth 100000
set_option maxHeartbeats 4000000
namespace K50
open PySem PySem.Spec PyProof.Rows L2 Z
theorem ok : conf.ok = true := by decide +kernel
end K50

set_option Elab.async false
set_option linter.all false
set_option maxRecDepth 100000
set_option maxHeartbeats 0
namespace K50
open PySem PySem.Spec PyProof.Rows L2 Z
abbrev R : PySem.W.OpenRow := PySem.W.OpenLaw.row PySem.Challenge.rw_intentstore_k50_logs
abbrev hk : PySem.W.Hook := hookZ 5 conf
def ob (s : PySem.W.SharedT) : He.AlD := obsZ 5 conf (HandSHeadRun.getT s)
theorem ob_eq (s : PySem.W.SharedT) : ob s = hk.obs s.abs := obsZ_eq (HandSHeadRun.getT_eq s)
def loose : List PySem.Str := [("_wall" : PySem.Str), ("__name__" : PySem.Str), ("DIGITS" : PySem.Str), ("MODULUS" : PySem.Str), ("written" : PySem.Str), ("_number_at" : PySem.Str), ("_read" : PySem.Str), ("check_of" : PySem.Str), ("record_of" : PySem.Str), ("_head" : PySem.Str), ("record_at" : PySem.Str), ("Log" : PySem.Str), ("_law_state" : PySem.Str), ("_law_take" : PySem.Str), ("_law_bits" : PySem.Str), ("_law_change" : PySem.Str), ("_law_form" : PySem.Str), ("_law_check" : PySem.Str), ("_law_record" : PySem.Str), ("_law_fallen" : PySem.Str)]
theorem run (w : World) : HandSHeadRun.RunEq R (PySem.W.view R.prog [21]) hk ob 4000 loose w := by
  intro os
  kernel_rfl
end K50

set_option Elab.async false
set_option linter.all false
set_option maxRecDepth 100000
set_option maxHeartbeats 0
open PySem PySem.W PySem.Calls PyProof.Rows
theorem PySem.Challenge.cw_intentstore_k50_logs_holds : PySem.Challenge.rw_intentstore_k50_logs.Holds := by
  w_on
  o_law
  refine HandSHeadRun.head_any (r := OpenLaw.row PySem.Challenge.rw_intentstore_k50_logs) (q := view (OpenLaw.row PySem.Challenge.rw_intentstore_k50_logs).prog [21]) (H := K50.hk) (ob := K50.ob) (M := 4000) (loose := K50.loose) (d := HandSHeadRun.topDef (OpenLaw.row PySem.Challenge.rw_intentstore_k50_logs).prog 21) (kwd := []) K50.ob_eq (by kernel_rfl) (fun s => by kernel_rfl) K50.run (by kernel_rfl) (by kernel_rfl) (by kernel_rfl) (by rfl) (by first | assumption | decide +kernel) (by decide +kernel) ⟨rfl, rfl, rfl, rfl, rfl, by decide +kernel⟩ ?hw ?hc
  case hw => w_witness2
  case hc => exact Z.law_z (l := PySem.Challenge.rw_intentstore_k50_logs) (n := 63) (N := 20) (h := 5) K50.conf K50.ok rfl (by decide) (by kernel_rfl) (by kernel_rfl) ⟨rfl, by decide, by decide⟩ K50.ev
