import PyProof.Rows.All
import Wide.All
import OpenK.AllK
import Wide.FinOn
import HandS.ForMost
import HandS.Style
import HandS.Deep
import HandS.RaiseMore
import HandS.Defaults
import HandS.HeadEnd
import HandS.HeadHook2
import HandS.Head0
import HandS.Head1
import HandS.Head2
import KE.SortData
import KE.LtData
import HandS.TupAny
import HandS.Conv
import KE.DataMinMax
import KE.SortKeyHeap
import HandS.More
import HandS.DictComp
import HandS.Small
import PySem.Challenge.RW_intentstore_k32_rings_and_victims
set_option Elab.async false
set_option linter.all false
set_option maxRecDepth 100000
set_option maxHeartbeats 4000000
namespace Z
open PySem PySem.Spec PyProof.Rows L2

/-! # plain data, the store, how they lie in the abstract heap -/
inductive D where
  | non | bl (b : Bool) | int (i : Int) | str (x : Str)
  | lst (xs : List D) | tup (xs : List D)
  | dK (kvs : List (Key × D)) | dT (kvs : List (List Key × D))
  | ref (n : Nat)
instance : Inhabited D := ⟨.non⟩

mutual
inductive Rep (K : PySem.W.Frag) (F : Hp) (ι : List Addr) : V → D → Prop
  | non : Rep K F ι .non .non
  | bl (b : Bool) : Rep K F ι (.bl b) (.bl b)
  | int (i : Int) : Rep K F ι (.int i) (.int i)
  | str (x : Str) : Rep K F ι (.str x) (.str x)
  | lst {a vs ds} : F a = some (.lst vs) → Reps K F ι vs ds → Rep K F ι (.ref a) (.lst ds)
  | tup {a vs ds} : F a = some (.tup vs) → Reps K F ι vs ds → Rep K F ι (.ref a) (.tup ds)
  | dK {a kvs es} : F a = some (.dK kvs) → kvs.map (·.1) = es.map (·.1) → Reps K F ι (kvs.map (·.2)) (es.map (·.2)) → Rep K F ι (.ref a) (.dK es)
  | dT {a kvs es} : F a = some (.dT kvs) → kvs.map (·.1) = es.map (·.1) → Reps K F ι (kvs.map (·.2)) (es.map (·.2)) → Rep K F ι (.ref a) (.dT es)
  | ref {n a} : ι[n]? = some a → Rep K F ι (.ref a) (.ref n)
inductive Reps (K : PySem.W.Frag) (F : Hp) (ι : List Addr) : List V → List D → Prop
  | nil : Reps K F ι [] []
  | cons {v d vs ds} : Rep K F ι v d → Reps K F ι vs ds → Reps K F ι (v :: vs) (d :: ds)
end

def LeH (F F' : Hp) : Prop := ∀ a o, F a = some o → F' a = some o
theorem LeH.refl (F : Hp) : LeH F F := fun _ _ h => h
theorem LeH.trans {F G H : Hp} (a : LeH F G) (b : LeH G H) : LeH F H := fun x o h => b x o (a x o h)
theorem LeH.upd {F : Hp} {a : Addr} {o : HO} (h : F a = none) : LeH F (upd F a o) := fun b u e => by
  rw [upd_ne (ne_of_none e h)]; exact e
def LeA (l m : List Addr) : Prop := ∀ (n : Nat) (a : Addr), l[n]? = some a → m[n]? = some a
theorem LeA.refl (l : List Addr) : LeA l l := fun _ _ h => h
theorem LeA.trans {l m n : List Addr} (a : LeA l m) (b : LeA m n) : LeA l n := fun x o h => b x o (a x o h)
theorem LeA.app (l m : List Addr) : LeA l (l ++ m) := fun n a h => by
  rw [List.getElem?_append_left (List.getElem?_eq_some_iff.mp h).1]; exact h

section
variable {K : PySem.W.Frag} {F F' : Hp} {ι ι' : List Addr}
mutual
theorem Rep.le (h : LeH F F') (g : LeA ι ι') : ∀ {v : V} {d : D}, Rep K F ι v d → Rep K F' ι' v d
  | _, _, .non => .non
  | _, _, .bl b => .bl b
  | _, _, .int i => .int i
  | _, _, .str x => .str x
  | _, _, .lst a r => .lst (h _ _ a) (Reps.le h g r)
  | _, _, .tup a r => .tup (h _ _ a) (Reps.le h g r)
  | _, _, .dK a e r => .dK (h _ _ a) e (Reps.le h g r)
  | _, _, .dT a e r => .dT (h _ _ a) e (Reps.le h g r)
  | _, _, .ref e => .ref (g _ _ e)
theorem Reps.le (h : LeH F F') (g : LeA ι ι') : ∀ {vs : List V} {ds : List D}, Reps K F ι vs ds → Reps K F' ι' vs ds
  | _, _, .nil => .nil
  | _, _, .cons a r => .cons (Rep.le h g a) (Reps.le h g r)
end
theorem Reps.length : ∀ {vs : List V} {ds : List D}, Reps K F ι vs ds → vs.length = ds.length
  | _, _, .nil => rfl
  | _, _, .cons _ r => by rw [List.length_cons, List.length_cons, r.length]
theorem Reps.app : ∀ {vs ws : List V} {ds es : List D}, Reps K F ι vs ds → Reps K F ι ws es → Reps K F ι (vs ++ ws) (ds ++ es)
  | _, _, _, _, .nil, b => b
  | _, _, _, _, .cons a r, b => .cons a (r.app b)
theorem Reps.at : ∀ {vs : List V} {ds : List D}, Reps K F ι vs ds → ∀ {i : Nat} {d : D}, ds[i]? = some d → ∃ v, vs[i]? = some v ∧ Rep K F ι v d
  | _, _, .nil, _, _, h => by simp at h
  | _, _, .cons a r, 0, _, h => by simp at h; subst h; exact ⟨_, rfl, a⟩
  | _, _, .cons a r, i + 1, _, h => by
    obtain ⟨v, h1, h2⟩ := r.at (i := i) (by simpa using h)
    exact ⟨v, by simpa using h1, h2⟩
theorem Reps.of_at : ∀ {vs : List V} {ds : List D}, Reps K F ι vs ds → ∀ {i : Nat} {v : V}, vs[i]? = some v → ∃ d, ds[i]? = some d ∧ Rep K F ι v d
  | _, _, .nil, _, _, h => by simp at h
  | _, _, .cons a r, 0, _, h => by simp at h; subst h; exact ⟨_, rfl, a⟩
  | _, _, .cons a r, i + 1, _, h => by
    obtain ⟨v, h1, h2⟩ := r.of_at (i := i) (by simpa using h)
    exact ⟨v, by simpa using h1, h2⟩
theorem Reps.take : ∀ {vs : List V} {ds : List D}, Reps K F ι vs ds → ∀ n : Nat, Reps K F ι (vs.take n) (ds.take n)
  | _, _, _, 0 => by simp; exact .nil
  | _, _, .nil, _ + 1 => by simp; exact .nil
  | _, _, .cons a r, n + 1 => .cons a (r.take n)
theorem Reps.drop : ∀ {vs : List V} {ds : List D}, Reps K F ι vs ds → ∀ n : Nat, Reps K F ι (vs.drop n) (ds.drop n)
  | _, _, r, 0 => r
  | _, _, .nil, _ + 1 => by simp; exact .nil
  | _, _, .cons a r, n + 1 => r.drop n
theorem Reps.set {v : V} {d : D} (q : Rep K F ι v d) : ∀ {vs : List V} {ds : List D}, Reps K F ι vs ds → ∀ n : Nat, Reps K F ι (vs.set n v) (ds.set n d)
  | _, _, .nil, _ => .nil
  | _, _, .cons a r, 0 => .cons q r
  | _, _, .cons a r, n + 1 => .cons a (r.set q n)
theorem Reps.rev {vs : List V} {ds : List D} (r : Reps K F ι vs ds) : Reps K F ι vs.reverse ds.reverse := by
  induction r using Reps.rec (motive_1 := fun _ _ _ => True) with
  | nil => exact .nil
  | cons a r _ ih => simp only [List.reverse_cons]; exact ih.app (.cons a .nil)
  | _ => trivial
theorem Reps.erase : ∀ {vs : List V} {ds : List D}, Reps K F ι vs ds → ∀ n : Nat, Reps K F ι (vs.eraseIdx n) (ds.eraseIdx n)
  | _, _, .nil, _ => by simp; exact .nil
  | _, _, .cons a r, 0 => r
  | _, _, .cons a r, n + 1 => .cons a (r.erase n)
theorem Reps.one {v : V} {d : D} (q : Rep K F ι v d) : Reps K F ι [v] [d] := .cons q .nil
end

/-! ## the store -/
/-- what is tracked by name: a list or dict that may change, one that is walked just now, an instance -/
inductive Cell where
  | con (d : D) | lck (d : D) | ins (C : Str) (fs : List (Str × D))
abbrev Store := List Cell

/-- a container at an address of G, its things by F -/
def CRep (K : PySem.W.Frag) (F : Hp) (ι : List Addr) (G : Hp) (a : Addr) : D → Prop
  | .lst ds => ∃ vs, G a = some (.lst vs) ∧ Reps K F ι vs ds
  | .dK es => ∃ kvs, G a = some (.dK kvs) ∧ kvs.map (·.1) = es.map (·.1) ∧ Reps K F ι (kvs.map (·.2)) (es.map (·.2))
  | .dT es => ∃ kvs, G a = some (.dT kvs) ∧ kvs.map (·.1) = es.map (·.1) ∧ Reps K F ι (kvs.map (·.2)) (es.map (·.2))
  | _ => False
/-- the same, locked -/
def LRep (K : PySem.W.Frag) (F : Hp) (ι : List Addr) (G : Hp) (a : Addr) : D → Prop
  | .lst ds => ∃ o vs, G a = some (.frz o (.lst vs)) ∧ Reps K F ι vs ds
  | .dK es => ∃ o kvs, G a = some (.frz o (.dK kvs)) ∧ kvs.map (·.1) = es.map (·.1) ∧ Reps K F ι (kvs.map (·.2)) (es.map (·.2))
  | .dT es => ∃ o kvs, G a = some (.frz o (.dT kvs)) ∧ kvs.map (·.1) = es.map (·.1) ∧ Reps K F ι (kvs.map (·.2)) (es.map (·.2))
  | _ => False
/-- the program's facts -/
structure Pg where
  P : Program
  w : World
  K : PySem.W.Frag
  mg : Str → Option Value
  base : Heap
  cls : Str → Option Addr
  con : Str → Option D
def IRep (p : Pg) (F : Hp) (ι : List Addr) (G : Hp) (a : Addr) (C : Str) (fs : List (Str × D)) : Prop :=
  ∃ Ca dx fv, p.cls C = some Ca ∧ G a = some (.ins Ca dx fv) ∧ fv.map (·.1) = fs.map (·.1) ∧ Reps p.K F ι (fv.map (·.2)) (fs.map (·.2))
def CellRep (p : Pg) (F : Hp) (ι : List Addr) (G : Hp) (a : Addr) : Cell → Prop
  | .con d => CRep p.K F ι G a d
  | .lck d => LRep p.K F ι G a d
  | .ins C fs => IRep p F ι G a C fs

theorem CRep.le {K : PySem.W.Frag} {F F' G G' : Hp} {ι ι' : List Addr} {a : Addr} {d : D} (h : LeH F F') (g : LeA ι ι') (e : G' a = G a) (r : CRep K F ι G a d) : CRep K F' ι' G' a d := by
  cases d <;> simp only [CRep] at r ⊢
  · obtain ⟨vs, a, b⟩ := r; exact ⟨vs, e.trans a, b.le h g⟩
  · obtain ⟨vs, a, c, b⟩ := r; exact ⟨vs, e.trans a, c, b.le h g⟩
  · obtain ⟨vs, a, c, b⟩ := r; exact ⟨vs, e.trans a, c, b.le h g⟩
theorem LRep.le {K : PySem.W.Frag} {F F' G G' : Hp} {ι ι' : List Addr} {a : Addr} {d : D} (h : LeH F F') (g : LeA ι ι') (e : G' a = G a) (r : LRep K F ι G a d) : LRep K F' ι' G' a d := by
  cases d <;> simp only [LRep] at r ⊢
  · obtain ⟨o, vs, a, b⟩ := r; exact ⟨o, vs, e.trans a, b.le h g⟩
  · obtain ⟨o, vs, a, c, b⟩ := r; exact ⟨o, vs, e.trans a, c, b.le h g⟩
  · obtain ⟨o, vs, a, c, b⟩ := r; exact ⟨o, vs, e.trans a, c, b.le h g⟩
theorem CellRep.le {p : Pg} {F F' G G' : Hp} {ι ι' : List Addr} {a : Addr} {c : Cell} (h : LeH F F') (g : LeA ι ι') (e : G' a = G a) (r : CellRep p F ι G a c) : CellRep p F' ι' G' a c := by
  cases c with
  | con d => exact CRep.le h g e r
  | lck d => exact LRep.le h g e r
  | ins C fs =>
    obtain ⟨Ca, dx, fv, h1, h2, h3, h4⟩ := r
    exact ⟨Ca, dx, fv, h1, e.trans h2, h3, h4.le h g⟩

/-! ## names' values -/
inductive Slot where
  | un | fz (d : D) | own (d : D)
abbrev Env' := List Slot

/-- tuples that a text's top may keep for all: no dict's keys here -/
def badKs : List (List Key) := [[.inl 0, .inl 0], [.inr "close", .inr "settle"]]
def badVs : List (List V) := badKs.map fun ks => ks.map kV
/-- a dict, a tuple of the top may be locked meanwhile -/
def SubH (H : Hp) (a : Addr) (o : HO) : Prop := H a = some o ∨ (((∃ kvs, o = .dK kvs) ∨ (∃ kvs, o = .dT kvs) ∨ ∃ vs ∈ badVs, o = .tup vs) ∧ ∃ ob, H a = some (.frz ob o))
/-- a tuple as it stands -/
def TupAt (H : Hp) (a : Addr) (vs : List V) : Prop := Rd H a (.tup vs) ∧ (H a = some (.tup vs) ∨ vs ∈ badVs)
theorem TupAt.sq {K : PySem.W.Frag} {H : Hp} {a : Addr} {vs : List V} (h : TupAt H a vs) : SqT K H a vs := .inl h.1
/-- never changed while it stands there -/
def Loose : HO → Prop
  | .frz _ _ => True
  | .tup _ => True
  | _ => False
def NoT : HO → Prop
  | .tup _ => False
  | _ => True
/-- what stands, whatever the names hold: the frozen part, the store, what others keep -/
structure Wd (p : Pg) (Pr : Hp) (S : Store) (F : Hp) (ι : List Addr) (H : Hp) : Prop where
  sub : ∀ a o, F a = some o → SubH H a o
  con : ∀ x d, p.con x = some d → ∃ u v, p.mg x = some u ∧ RelV v u ∧ Rep p.K F ι v d
  len : ι.length = S.length
  nd : ι.Nodup
  cell : ∀ (n : Nat) (c : Cell) (a : Addr), S[n]? = some c → ι[n]? = some a → F a = none ∧ CellRep p F ι H a c
  prot : ∀ a o, Pr a = some o → H a = some o ∧ (F a = none ∨ Loose o) ∧ ∀ (n : Nat) (c : Cell), ι[n]? = some a → S[n]? = some c → ∃ d, c = .lck d
/-- the names too: their places in α for own containers -/
structure Rel (p : Pg) (Pr : Hp) (ρ : Env') (S : Store) (F : Hp) (ι : List Addr) (α : Nat → Addr) (σ : L2.St) (H : Hp) : Prop where
  wd : Wd p Pr S F ι H
  fz : ∀ (i : Nat) (d : D), ρ[i]? = some (.fz d) → ∃ v, σ[i]? = some (some v) ∧ Rep p.K F ι v d
  own : ∀ (i : Nat) (d : D), ρ[i]? = some (.own d) → σ[i]? = some (some (.ref (α i))) ∧ F (α i) = none ∧ α i ∉ ι ∧ CRep p.K F ι H (α i) d ∧ Pr (α i) = none
  lng : ρ.length ≤ σ.length
  inj : ∀ (i j : Nat) (d e : D), ρ[i]? = some (.own d) → ρ[j]? = some (.own e) → α i = α j → i = j

theorem CRep.there {K : PySem.W.Frag} {F G : Hp} {ι : List Addr} {a : Addr} {d : D} (r : CRep K F ι G a d) : ∃ o, G a = some o ∧ Mut (some o) ∧ NoT o ∧ ¬ Loose o := by
  cases d <;> simp only [CRep] at r
  · obtain ⟨vs, a, b⟩ := r; exact ⟨_, a, trivial, trivial, id⟩
  · obtain ⟨vs, a, c, b⟩ := r; exact ⟨_, a, trivial, trivial, id⟩
  · obtain ⟨vs, a, c, b⟩ := r; exact ⟨_, a, trivial, trivial, id⟩
theorem LRep.there {K : PySem.W.Frag} {F G : Hp} {ι : List Addr} {a : Addr} {d : D} (r : LRep K F ι G a d) : ∃ ob o, G a = some (.frz ob o) := by
  cases d <;> simp only [LRep] at r
  · obtain ⟨o, vs, a, b⟩ := r; exact ⟨_, _, a⟩
  · obtain ⟨o, vs, a, c, b⟩ := r; exact ⟨_, _, a⟩
  · obtain ⟨o, vs, a, c, b⟩ := r; exact ⟨_, _, a⟩
theorem CellRep.there {p : Pg} {F G : Hp} {ι : List Addr} {a : Addr} {c : Cell} (r : CellRep p F ι G a c) : ∃ o, G a = some o ∧ NoT o := by
  cases c with
  | con d => obtain ⟨o, h, _, t, _⟩ := CRep.there r; exact ⟨o, h, t⟩
  | lck d => obtain ⟨ob, o, h⟩ := LRep.there r; exact ⟨_, h, trivial⟩
  | ins C fs => obtain ⟨Ca, dx, fv, _, h, _⟩ := r; exact ⟨_, h, trivial⟩
end Z

set_option Elab.async false
set_option linter.all false
set_option maxRecDepth 100000
set_option maxHeartbeats 4000000
namespace Z
open PySem PySem.Spec PyProof.Rows L2

/-! # operations on plain data -/
mutual
def D.py : D → PyData
  | .non => .none | .bl b => .bool b | .int i => .int i | .str x => .str x
  | .lst xs => .list (pys xs) | .tup xs => .tuple (pys xs)
  | .dK _ => .none | .dT _ => .none | .ref _ => .none
def pys : List D → List PyData
  | [] => []
  | x :: xs => x.py :: pys xs
end
mutual
/-- no dicts, nothing of the store -/
def D.plain : D → Bool
  | .non => true | .bl _ => true | .int _ => true | .str x => PyData.strOk x
  | .lst xs => plains xs | .tup xs => plains xs
  | .dK _ => false | .dT _ => false | .ref _ => false
def plains : List D → Bool
  | [] => true
  | x :: xs => x.plain && plains xs
end
def D.dep (d : D) : Nat := d.py.depth
def keyP : Key → PyData
  | .inl i => .int i | .inr x => .str x
mutual
/-- what repr sees, dicts too -/
def D.pyr : D → PyData
  | .non => .none | .bl b => .bool b | .int i => .int i | .str x => .str x
  | .lst xs => .list (pyrs xs) | .tup xs => .tuple (pyrs xs)
  | .dK es => .dict (pyrk es) | .dT _ => .none | .ref _ => .none
def pyrs : List D → List PyData
  | [] => []
  | x :: xs => x.pyr :: pyrs xs
def pyrp : Key × D → PyData × PyData
  | (k, d) => (keyP k, d.pyr)
def pyrk : List (Key × D) → List (PyData × PyData)
  | [] => []
  | x :: xs => pyrp x :: pyrk xs
end
mutual
/-- nothing of the store, no dict whose keys are tuples -/
def D.shw : D → Bool
  | .non => true | .bl _ => true | .int _ => true | .str _ => true
  | .lst xs => shws xs | .tup xs => shws xs
  | .dK es => shwk es | .dT _ => false | .ref _ => false
def shws : List D → Bool
  | [] => true
  | x :: xs => x.shw && shws xs
def shwp : Key × D → Bool
  | (_, d) => d.shw
def shwk : List (Key × D) → Bool
  | [] => true
  | x :: xs => shwp x && shwk xs
end
def isSeqD : D → Bool
  | .lst _ => true | .tup _ => true
  | _ => false
def okShw (d : D) : Bool := isSeqD d && (d.shw && (decide (d.pyr.depth ≤ 60) && (d.pyr.showable && decide (d.pyr.shown.length ≤ sizeLine))))
def D.fit (d : D) : Bool := d.plain && decide (d.dep ≤ 60)
def fits (ds : List D) : Bool := (D.lst ds).fit
def eqD (a b : D) : Bool := PyData.eqv a.py b.py
def ltD (a b : D) : Bool := PySem.W.dataLt a.py b.py
def likeD (a b : D) : Bool := PySem.W.alike a.py b.py
def D.isNon : D → Bool
  | .non => true
  | _ => false
def okEq (a b : D) : Bool := a.fit && b.fit
def okLt (a b : D) : Bool := a.fit && (b.fit && (likeD a b && !a.isNon))
/-- all alike, none of them None -/
def okAll (ds : List D) : Bool := fits ds && ((ds.all fun a => ds.all fun b => likeD a b) && ds.all fun a => !a.isNon)
def maxD (x : D) (xs : List D) : D := xs.foldl (fun a y => if ltD a y then y else a) x
def minD (x : D) (xs : List D) : D := xs.foldl (fun a y => if ltD y a then y else a) x

/-- a dict's key -/
def keyK : D → Option Key
  | .int i => some (.inl i) | .str x => some (.inr x)
  | _ => none
def keyKs : List D → Option (List Key)
  | [] => some []
  | x :: xs => match keyK x, keyKs xs with
    | some k, some ks => some (k :: ks)
    | _, _ => none
def keyT : D → Option (List Key)
  | .tup xs => (keyKs xs).bind fun ks => if badKs.any (fun b => decide (b = ks)) then none else some ks
  | _ => none
def dK1 : Key → D
  | .inl i => .int i | .inr x => .str x
def dT1 (ks : List Key) : D := .tup (ks.map dK1)
section
variable {κ : Type} [DecidableEq κ] {β : Type}
def look (es : List (κ × β)) (k : κ) : Option β := (es.find? fun e => decide (e.1 = k)).map (·.2)
def dput (es : List (κ × β)) (k : κ) (v : β) : List (κ × β) := if (look es k).isSome then es.map (fun e => if e.1 = k then (e.1, v) else e) else es ++ [(k, v)]
def ddrop (es : List (κ × β)) (k : κ) : List (κ × β) := es.filter fun e => decide (e.1 ≠ k)
end
/-- what a dict has under a key: not a dict or not a key of its kind; nothing; something -/
def dget : D → D → Option (Option D)
  | .dK es, k => (keyK k).map (look es)
  | .dT es, k => (keyT k).map (look es)
  | _, _ => none
def dset : D → D → D → Option D
  | .dK es, k, v => match keyK k with
    | some k => if es.length < sizeLine then some (.dK (dput es k v)) else none
    | none => none
  | .dT es, k, v => match keyT k with
    | some k => if es.length < sizeLine then some (.dT (dput es k v)) else none
    | none => none
  | _, _, _ => none
def ddel : D → D → Option D
  | .dK es, k => (keyK k).map fun k => .dK (ddrop es k)
  | _, _ => none
def keysOf : D → Option (List D)
  | .dK es => some (es.map fun e => dK1 e.1)
  | .dT es => some (es.map fun e => dT1 e.1)
  | _ => none
def itemsOf : D → Option (List D)
  | .dK es => some (es.map fun e => .tup [dK1 e.1, e.2])
  | _ => none

def signs (x : Str) : List D := x.cps.toList.map fun c => .str ⟨#[c]⟩
/-- what a for walks -/
def itemsIn : D → Option (List D)
  | .lst xs => some xs | .tup xs => some xs
  | .str x => if x.length ≤ sizeLine then some (signs x) else none
  | .dK es => keysOf (.dK es) | .dT es => keysOf (.dT es)
  | _ => none
def lenD : D → Option D
  | .lst xs => some (.int xs.length) | .tup xs => some (.int xs.length)
  | .str x => if x.length ≤ sizeLine then some (.int x.length) else none
  | .dK es => some (.int es.length)
  | _ => none

instance {i j : Int} : Decidable (CMul i j) := by unfold CMul; infer_instance
instance {i j : Int} : Decidable (CDiv i j) := by unfold CDiv; infer_instance
def repS (x : Str) : Nat → Str
  | 0 => Str.empty
  | n + 1 => x ++ repS x n
def timesS (x : Str) (n : Nat) : Str := ⟨(List.replicate n x.cps).foldl (· ++ ·) #[]⟩
def binD : Operator → D → D → Option D
  | .Add, .int i, .int j => some (.int (i + j))
  | .Add, .str x, .str y => if x.length + y.length ≤ sizeLine then some (.str (x ++ y)) else none
  | .Add, .lst xs, .lst ys => if xs.length + ys.length ≤ sizeLine then some (.lst (xs ++ ys)) else none
  | .Add, .tup xs, .tup ys => if xs.length + ys.length ≤ sizeLine then some (.tup (xs ++ ys)) else none
  | .Sub, .int i, .int j => some (.int (i - j))
  | .Mult, .str x, .int n => if 2 ≤ n ∧ n ≤ 1000 ∧ 1 ≤ x.length ∧ x.length ≤ 1000 ∧ (timesS x n.toNat).length ≤ 1000000 then some (.str (timesS x n.toNat)) else none
  | .Mult, .int i, .int j => if CMul i j then some (.int (i * j)) else none
  | .FloorDiv, .int i, .int j => if CDiv i j then some (.int (i / j)) else none
  | .Mod, .int i, .int j => if 0 < j then some (.int (i % j)) else none
  | _, _, _ => none
def cmpD : CmpOp → D → D → Option Bool
  | .Eq, a, b => if okEq a b then some (eqD a b) else none
  | .NotEq, a, b => if okEq a b then some (!eqD a b) else none
  | .Lt, a, b => if okLt a b then some (ltD a b) else none
  | .Gt, a, b => if okLt a b then some (ltD b a) else none
  | .LtE, a, b => if okLt a b then some (!ltD b a) else none
  | .GtE, a, b => if okLt a b then some (!ltD a b) else none
  | .In, a, .lst bs => if a.fit && fits bs then some (bs.any fun b => eqD b a) else none
  | .NotIn, a, .lst bs => if a.fit && fits bs then some (!bs.any fun b => eqD b a) else none
  | .In, a, .tup bs => if a.fit && fits bs then some (bs.any fun b => eqD b a) else none
  | .NotIn, a, .tup bs => if a.fit && fits bs then some (!bs.any fun b => eqD b a) else none
  | .In, a, .dK es => (dget (.dK es) a).map (·.isSome)
  | .NotIn, a, .dK es => (dget (.dK es) a).map (!·.isSome)
  | .In, a, .dT es => (dget (.dT es) a).map (·.isSome)
  | .NotIn, a, .dT es => (dget (.dT es) a).map (!·.isSome)
  | .In, .str x, .str y => some (!(Builtin.Str.occurrences y x 0 y.length 1).isEmpty)
  | .NotIn, .str x, .str y => some (!(!(Builtin.Str.occurrences y x 0 y.length 1).isEmpty))
  | _, _, _ => none
def idxD : D → D → Option D
  | .lst xs, .int i => atI xs i
  | .tup xs, .int i => atI xs i
  | .str x, .int i => if x.length ≤ sizeLine then (atI x.cps.toList i).map fun c => .str ⟨#[c]⟩ else none
  | .dK es, k => (dget (.dK es) k).join
  | .dT es, k => (dget (.dT es) k).join
  | _, _ => none
def cutL {α : Type} (xs : List α) (lo hi : Option Int) : List α := (xs.drop (HT.sIx xs.length 0 lo)).take (HT.sIx xs.length xs.length hi - HT.sIx xs.length 0 lo)
def slD : D → Option Int → Option Int → Option D
  | .lst xs, lo, hi => some (.lst (cutL xs lo hi))
  | .tup xs, lo, hi => some (.tup (cutL xs lo hi))
  | .str x, lo, hi => if x.length ≤ sizeLine then some (.str (cutS x lo hi)) else none
  | _, _, _ => none
def intOf : D → Option Int
  | .int i => some i
  | _ => none
def blOf : D → Option Bool
  | .bl b => some b
  | _ => none
def isoD (a : D) (neg : Bool) : D → Option D
  | .non => some (.bl (a.isNon != neg))
  | .bl b => match a with
    | .bl c => some (.bl ((c == b) != neg))
    | _ => none
  | _ => none

inductive Bi where
  | abs | len | max | min | sorted | list | tuple | dict | str | int | ord | repr | sum | any | all | bool | setLen
  deriving DecidableEq
def leD (a b : D) : Bool := !ltD b a
def sortD (xs : List D) : List D := xs.mergeSort leD
def okSort (xs : List D) : Bool := okAll xs && (decide (xs.length ≤ sizeLine) && ((xs.all fun d => match d with
  | .tup (_ :: _) => true
  | _ => false) || xs.all fun d => match d with
  | .tup _ => false
  | _ => true))
def sortedD (xs : List D) : Option D := if okSort xs then some (.lst (sortD xs)) else none
def intKs {β : Type} : List (Key × β) → Option (List Int)
  | [] => some []
  | (.inl i, _) :: r => (intKs r).map (i :: ·)
  | _ => none
def strKs {β : Type} : List (Key × β) → Option (List Str)
  | [] => some []
  | (.inr x, _) :: r => (strKs r).map (x :: ·)
  | _ => none
def leSt (a b : Str) : Bool := !decide (b.cps.toList < a.cps.toList)
def sortI (ks : List Int) : List Int := ks.mergeSort fun a b => decide (a ≤ b)
def sortT (ks : List Str) : List Str := ks.mergeSort leSt
/-- sorted of a dict: its keys -/
def sortKD (es : List (Key × D)) : Option D := match intKs es with
  | some ks => if ks.length < 64 then some (.lst ((sortI ks).map .int)) else none
  | none => match strKs es with
    | some ks => if ks.length < 64 then some (.lst ((sortT ks).map .str)) else none
    | none => none
def reprD' (d : D) : Option D := if okShw d then some (.str d.pyr.shown) else none
def bltD : Bi → List D → Option D
  | .abs, [.int i] => some (.int (if i < 0 then -i else i))
  | .len, [d] => lenD d
  | .max, [.int i, .int j] => some (.int (if j > i then j else i))
  | .min, [.int i, .int j] => some (.int (if j < i then j else i))
  | .max, [.tup a, .tup b] => if okAll [.tup a, .tup b] then some (maxD (.tup a) [.tup b]) else none
  | .min, [.tup a, .tup b] => if okAll [.tup a, .tup b] then some (minD (.tup a) [.tup b]) else none
  | .max, [.str a, .str b] => if okAll [.str a, .str b] then some (maxD (.str a) [.str b]) else none
  | .min, [.str a, .str b] => if okAll [.str a, .str b] then some (minD (.str a) [.str b]) else none
  | .max, [.lst (x :: xs)] => if okAll (x :: xs) then some (maxD x xs) else none
  | .min, [.lst (x :: xs)] => if okAll (x :: xs) then some (minD x xs) else none
  | .sorted, [.lst xs] => sortedD xs
  | .sorted, [.dK es] => sortKD es
  | .list, [.lst xs] => some (.lst xs)
  | .list, [.tup xs] => some (.lst xs)
  | .int, [.int i] => some (.int i)
  | .int, [.bl b] => some (.int (if b then 1 else 0))
  | .repr, [d] => if d.fit = true ∧ d.py.showable = true ∧ d.py.shown.length ≤ sizeLine then some (.str d.py.shown) else reprD' d
  | _, _ => none

/-! # the text in short, and what it does -/
inductive Cst where
  | non | bl (b : Bool) | int (i : Int) | str (x : Str)
  deriving DecidableEq
def Cst.d : Cst → D
  | .non => .non | .bl b => .bl b | .int i => .int i | .str x => .str x
/-- a constant of the text's top -/
inductive GC where
  | one (c : Cst) | many (cs : List Cst)
  deriving DecidableEq
def GC.d : GC → D
  | .one c => c.d
  | .many cs => .tup (cs.map Cst.d)
/-- a target: a name's place, or names' places -/
inductive Tg where
  | nm (i : Nat) | nms (is : List Nat)
mutual
inductive Ex where
  | var (i : Nat)
  | cst (c : Cst)
  | glb (x : Str) (g : GC)
  | bin (o : Operator) (a b : Ex)
  | neg (a : Ex) | not (a : Ex)
  | and (a b : Ex) | or (a b : Ex)
  | ife (c a b : Ex)
  | cmp (o : CmpOp) (a b : Ex)
  | chn (o o' : CmpOp) (a b c : Ex)
  | iso (neg : Bool) (a b : Ex)
  | tup (as : Ar) | list (as : Ar)
  | dnew (t : Bool) | disp (ks vs : Ar)
  | idx (a b : Ex)
  | sl (a : Ex) (lo hi : Ar)
  | rev (a : Ex)
  | fld (a : Ex) (f : Str)
  | call (f : Str) (as : Ar)
  | mk (C : Str) (as : Ar)
  | meth (o : Ex) (m : Str) (as : Ar)
  | blt (b : Bi) (as : Ar)
  | get (o k : Ex) | getd (o k x : Ex)
  | comp (t : Tg) (it : It) (c : Ar) (e : Ex)
  | dcomp (t : Tg) (it : It) (c : Ar) (k v : Ex)
  | mref (e : Ex)
  | lrng (a b : Ex)
  | dcst (kvs : List (Cst × Cst))
inductive Ar where
  | nil | cons (e : Ex) (as : Ar)
inductive It where
  | seq (e : Ex) | rng (a : Ex) | rng2 (a b : Ex) | items (e : Ex)
end
mutual
inductive Sm where
  | asg (t : Tg) (e : Ex)
  | own (i : Nat) (e : Ex)
  | par (is : List Nat) (es : Ar)
  | setf (o : Ex) (f : Str) (e : Ex)
  | seti (o k e : Ex)
  | app (o e : Ex)
  | pop (t : Option Tg) (o : Ex) (as : Ar)
  | expr (e : Ex)
  | aug (i : Nat) (o : Operator) (e : Ex)
  | ife (c : Ex) (a b : Sms)
  | for_ (t : Tg) (it : It) (b : Sms)
  | while_ (c : Ex) (b : Sms)
  | ret (e : Ex) | retN | brk | cnt | pass
inductive Sms where
  | nil | cons (s : Sm) (r : Sms)
  | frz (i : Nat) (r : Sms)
end

inductive Hd where
  | val (d : D) | slot (i : Nat)
def cont (ρ : Env') (S : Store) : Hd → Option D
  | .val (.ref n) => match S[n]? with
    | some (.con d) => some d
    | some (.lck d) => some d
    | _ => none
  | .val d => some d
  | .slot i => match ρ[i]? with
    | some (.own d) => some d
    | _ => none
/-- what an expression hands to an operation that only looks -/
def hOf (e : Ex) (ρ : Env') (S : Store) (r : Option (D × Store)) : Option (Hd × Store) := match e with
  | .var i => match ρ[i]? with
    | some (.own _) => some (.slot i, S)
    | some (.fz d) => some (.val d, S)
    | _ => none
  | _ => r.map fun x => (.val x.1, x.2)
def setC (S : Store) (n : Nat) (d : D) : Option Store := match S[n]? with
  | some (.con _) => some (S.set n (.con d))
  | _ => none
def isDct : Option D → Bool
  | some (.dK _) => true
  | some (.dT _) => true
  | _ => false
def isLst : Option D → Bool
  | some (.lst _) => true
  | _ => false
def bindT (t : Tg) (d : D) (ρ : Env') : Option Env' := match t with
  | .nm i => some (ρ.set i (.fz d))
  | .nms is => match d with
    | .tup ds => if ds.length = is.length then some ((is.zip ds).foldl (fun ρ p => ρ.set p.1 (.fz p.2)) ρ) else none
    | _ => none
/-- the defs as functions; which attributes a class's instances have -/
structure Fns where
  fn : Str × Option Str → List D → Store → Option (D × Store)
  fld : Str → Str → Bool
def wipeS (ρ : Env') : List Nat → Env'
  | [] => ρ
  | v :: vs => (wipeS ρ vs).set v .un
def Tg.ix : Tg → List Nat
  | .nm i => [i]
  | .nms is => is
open Classical in
noncomputable def compGo (kp : Store → Prop) (f : D → Store → Option (Option D × Store)) : List D → Store → Option (List D × Store)
  | [], S => some ([], S)
  | x :: xs, S => (f x S).bind fun r => if kp r.2 then (compGo kp f xs r.2).map fun q => (match r.1 with
    | some d => d :: q.1
    | none => q.1, q.2) else none
/-- a dict of the store is locked while it is walked -/
def lockS (ρ : Env') (S : Store) : Hd → Option (Store × Option (Nat × D))
  | .val (.ref n) => match S[n]? with
    | some (.con (.dK es)) => some (S.set n (.lck (.dK es)), some (n, .dK es))
    | some (.con (.dT es)) => some (S.set n (.lck (.dT es)), some (n, .dT es))
    | some (.con _) => some (S, none)
    | some (.lck _) => some (S, none)
    | _ => none
  | .val _ => some (S, none)
  | .slot i => match ρ[i]? with
    | some (.own (.lst _)) => some (S, none)
    | _ => none
def noSlot : Hd → Bool
  | .val _ => true
  | .slot _ => false
def noOwn (ρ : Env') (is : List Nat) : Bool := is.all fun i => match ρ[i]? with
  | some (.own _) => false
  | _ => true
def freeS (S : Store) : Option (Nat × D) → Option Store
  | none => some S
  | some (n, d) => match S[n]? with
    | some (.lck _) => some (S.set n (.con d))
    | _ => none
def rngD (i : Int) (n : Nat) : List D := (List.range n).map fun (k : Nat) => .int (i + (k : Int))
def smallI (i : Int) : Bool := decide (-(2 ^ 62) ≤ i) && decide (i < 2 ^ 62)
def dsp : List D → List D → Option (List (Key × D))
  | [], [] => some []
  | k :: ks, v :: vs => match keyK k, dsp ks vs with
    | some k, some r => some ((k, v) :: r)
    | _, _ => none
  | _, _ => none
def ixO : List D → Option (Option Int)
  | [] => some none
  | [.int i] => some (some i)
  | _ => none
/-- a dict comprehension's pairs, put one by one -/
def mkd : List D → List (Key × D) → Option (List (Key × D))
  | [], es => some es
  | .tup [k, v] :: r, es => (keyK k).bind fun k => mkd r (dput es k v)
  | _, _ => none
def newRef (S : Store) (d : D) : Option (D × Store) := match d with
  | .lst xs => some (.ref S.length, S ++ [.con (.lst xs)])
  | .dK xs => some (.ref S.length, S ++ [.con (.dK xs)])
  | .dT xs => some (.ref S.length, S ++ [.con (.dT xs)])
  | _ => none
mutual
noncomputable def evE (G : Fns) : Ex → Env' → Store → Option (D × Store)
  | .var i, ρ, S => match ρ[i]? with
    | some (.fz d) => some (d, S)
    | _ => none
  | .cst c, _, S => some (c.d, S)
  | .glb _ g, _, S => some (g.d, S)
  | .bin o a b, ρ, S => (hOf a ρ S (evE G a ρ S)).bind fun x => (hOf b ρ x.2 (evE G b ρ x.2)).bind fun y =>
      (cont ρ y.2 x.1).bind fun u => (cont ρ y.2 y.1).bind fun v => (binD o u v).map fun d => (d, y.2)
  | .neg a, ρ, S => (evE G a ρ S).bind fun x => (intOf x.1).map fun i => (.int (-i), x.2)
  | .not a, ρ, S => (evE G a ρ S).bind fun x => (blOf x.1).map fun b => (.bl (!b), x.2)
  | .and a b, ρ, S => (evE G a ρ S).bind fun x => (blOf x.1).bind fun c => if c then evE G b ρ x.2 else some (.bl false, x.2)
  | .or a b, ρ, S => (evE G a ρ S).bind fun x => (blOf x.1).bind fun c => if c then some (.bl true, x.2) else evE G b ρ x.2
  | .ife c a b, ρ, S => (evE G c ρ S).bind fun x => (blOf x.1).bind fun c => if c then evE G a ρ x.2 else evE G b ρ x.2
  | .cmp o a b, ρ, S => (hOf a ρ S (evE G a ρ S)).bind fun x => (hOf b ρ x.2 (evE G b ρ x.2)).bind fun y =>
      (cont ρ y.2 x.1).bind fun u => (cont ρ y.2 y.1).bind fun v => (cmpD o u v).map fun c => (.bl c, y.2)
  | .chn o o' a b c, ρ, S => (hOf a ρ S (evE G a ρ S)).bind fun x => (hOf b ρ x.2 (evE G b ρ x.2)).bind fun y =>
      (cont ρ y.2 x.1).bind fun u => (cont ρ y.2 y.1).bind fun v => (cmpD o u v).bind fun r =>
        if r then (hOf c ρ y.2 (evE G c ρ y.2)).bind fun z => (cont ρ z.2 y.1).bind fun v' => (cont ρ z.2 z.1).bind fun w => (cmpD o' v' w).map fun c => (.bl c, z.2) else some (.bl false, y.2)
  | .iso n a b, ρ, S => (evE G a ρ S).bind fun x => (evE G b ρ x.2).bind fun y => (isoD x.1 n y.1).map fun d => (d, y.2)
  | .tup as, ρ, S => (evA G as ρ S).bind fun x => if x.1.length ≤ sizeLine then some (.tup x.1, x.2) else none
  | .list as, ρ, S => (evA G as ρ S).bind fun x => if x.1.length ≤ sizeLine then some (.lst x.1, x.2) else none
  | .dnew t, _, S => some (if t then .dT [] else .dK [], S)
  | .disp ks vs, ρ, S => (evA G ks ρ S).bind fun x => (evA G vs ρ x.2).bind fun y => (dsp x.1 y.1).bind fun es =>
      if es.length ≤ 15 then some (.dK (es.foldl (fun acc e => dput acc e.1 e.2) []), y.2) else none
  | .idx a b, ρ, S => (hOf a ρ S (evE G a ρ S)).bind fun x => (evE G b ρ x.2).bind fun y =>
      (cont ρ y.2 x.1).bind fun u => (idxD u y.1).map fun d => (d, y.2)
  | .sl a lo hi, ρ, S => (hOf a ρ S (evE G a ρ S)).bind fun x => (evA G lo ρ x.2).bind fun y => (evA G hi ρ y.2).bind fun z =>
      (cont ρ z.2 x.1).bind fun u => (ixO y.1).bind fun lo => (ixO z.1).bind fun hi => (slD u lo hi).map fun d => (d, z.2)
  | .rev a, ρ, S => (hOf a ρ S (evE G a ρ S)).bind fun x => (cont ρ x.2 x.1).bind fun u => match u with
      | .lst xs => some (.lst xs.reverse, x.2)
      | _ => none
  | .fld a f, ρ, S => (evE G a ρ S).bind fun x => match x.1 with
      | .ref n => (match x.2[n]? with
        | some (.ins C fs) => if G.fld C f then (fs.lookup f).map fun d => (d, x.2) else none
        | _ => none)
      | _ => none
  | .call f as, ρ, S => (evA G as ρ S).bind fun x => G.fn (f, none) x.1 x.2
  | .mk C as, ρ, S => (evA G as ρ S).bind fun x => (G.fn (C, some "__init__") (.ref x.2.length :: x.1) (x.2 ++ [.ins C []])).bind fun y => match y.1 with
      | .non => some (.ref x.2.length, y.2)
      | _ => none
  | .meth o m as, ρ, S => (evE G o ρ S).bind fun x => match x.1 with
      | .ref n => (match x.2[n]? with
        | some (.ins C fs) => if (fs.lookup m).isNone then (evA G as ρ x.2).bind fun y => G.fn (C, some m) (.ref n :: y.1) y.2 else none
        | _ => none)
      | _ => none
  | .blt b as, ρ, S => (evH G as ρ S).bind fun x => (x.1.mapM (cont ρ x.2)).bind fun ds => (bltD b ds).map fun d => (d, x.2)
  | .get o k, ρ, S => (hOf o ρ S (evE G o ρ S)).bind fun x => if isDct (cont ρ x.2 x.1) then (evE G k ρ x.2).bind fun y =>
      (cont ρ y.2 x.1).bind fun u => (dget u y.1).map fun r => (r.getD .non, y.2) else none
  | .getd o k d, ρ, S => (hOf o ρ S (evE G o ρ S)).bind fun x => if isDct (cont ρ x.2 x.1) then (evE G k ρ x.2).bind fun y => (evE G d ρ y.2).bind fun z =>
      (cont ρ z.2 x.1).bind fun u => (dget u y.1).map fun r => (r.getD z.1, z.2) else none
  | .comp t it c e, ρ, S => if noOwn ρ t.ix then (evI G it ρ S).bind fun w => (lockS ρ w.2.2 w.1).bind fun l =>
      (compGo (fun S' => cont ρ S' w.1 = cont ρ l.1 w.1) (fun d S' => (bindT t d (wipeS ρ t.ix)).bind fun ρ' => match c with
        | .nil => (evE G e ρ' S').map fun r => (some r.1, r.2)
        | .cons c _ => (evE G c ρ' S').bind fun q => (blOf q.1).bind fun b => if b then (evE G e ρ' q.2).map fun r => (some r.1, r.2) else some (none, q.2)) w.2.1 l.1).bind fun y =>
      (freeS y.2 l.2).bind fun S' => if y.1.length ≤ sizeLine then some (.lst y.1, S') else none else none
  | .dcomp t it c k v, ρ, S => if noOwn ρ t.ix then (evI G it ρ S).bind fun w => (lockS ρ w.2.2 w.1).bind fun l =>
      (compGo (fun S' => cont ρ S' w.1 = cont ρ l.1 w.1) (fun d S' => (bindT t d (wipeS ρ t.ix)).bind fun ρ' => match c with
        | .nil => (evE G k ρ' S').bind fun r => (evE G v ρ' r.2).map fun q => (some (.tup [r.1, q.1]), q.2)
        | .cons c _ => (evE G c ρ' S').bind fun q => (blOf q.1).bind fun b => if b then (evE G k ρ' q.2).bind fun r => (evE G v ρ' r.2).map fun q => (some (.tup [r.1, q.1]), q.2) else some (none, q.2)) w.2.1 l.1).bind fun y =>
      (freeS y.2 l.2).bind fun S' => if y.1.length ≤ sizeLine then (mkd y.1 []).map fun es => (.dK es, S') else none else none
  | .mref e, ρ, S => (evE G e ρ S).bind fun x => newRef x.2 x.1
  | .lrng a b, ρ, S => (evE G a ρ S).bind fun x => (evE G b ρ x.2).bind fun y => (intOf x.1).bind fun i => (intOf y.1).bind fun j => if smallI i && (smallI j && decide ((j - i).toNat ≤ 1000000)) then some (.lst (rngD i (j - i).toNat), y.2) else none
  | .dcst kvs, _, S => (dsp (kvs.map fun q => q.1.d) (kvs.map fun q => q.2.d)).bind fun es => if es.length ≤ 15 ∧ es ≠ [] then some (.dK (es.foldl (fun acc e => dput acc e.1 e.2) []), S) else none
noncomputable def evA (G : Fns) : Ar → Env' → Store → Option (List D × Store)
  | .nil, _, S => some ([], S)
  | .cons e as, ρ, S => (evE G e ρ S).bind fun x => (evA G as ρ x.2).map fun y => (x.1 :: y.1, y.2)
noncomputable def evH (G : Fns) : Ar → Env' → Store → Option (List Hd × Store)
  | .nil, _, S => some ([], S)
  | .cons e as, ρ, S => (hOf e ρ S (evE G e ρ S)).bind fun x => (evH G as ρ x.2).map fun y => (x.1 :: y.1, y.2)
noncomputable def evI (G : Fns) : It → Env' → Store → Option (Hd × List D × Store)
  | .seq e, ρ, S => (hOf e ρ S (evE G e ρ S)).bind fun x => (cont ρ x.2 x.1).bind fun u => (itemsIn u).map fun xs => (x.1, xs, x.2)
  | .rng a, ρ, S => (evE G a ρ S).bind fun x => (intOf x.1).bind fun j => if smallI j then some (.val .non, rngD 0 j.toNat, x.2) else none
  | .rng2 a b, ρ, S => (evE G a ρ S).bind fun x => (evE G b ρ x.2).bind fun y => (intOf x.1).bind fun i => (intOf y.1).bind fun j => if smallI i && smallI j then some (.val .non, rngD i (j - i).toNat, y.2) else none
  | .items e, ρ, S => (hOf e ρ S (evE G e ρ S)).bind fun x => (cont ρ x.2 x.1).bind fun u => (itemsOf u).map fun xs => (x.1, xs, x.2)
end

/-! ## statements -/
inductive Out where
  | nxt (ρ : Env') (S : Store) | ret (d : D) (S : Store) | brk (ρ : Env') (S : Store) | cnt (ρ : Env') (S : Store)
/-- a container changed: a name's own, or one of the store -/
def putC (ρ : Env') (S : Store) (h : Hd) (d : D) : Option (Env' × Store) := match h with
  | .slot i => some (ρ.set i (.own d), S)
  | .val (.ref n) => (setC S n d).map fun S' => (ρ, S')
  | _ => none
def setF (G : Fns) (S : Store) (n : Nat) (f : Str) (d : D) : Option Store := match S[n]? with
  | some (.ins C fs) => if fs.length < 1000 ∧ G.fld C f = true then some (S.set n (.ins C (fput fs f d))) else none
  | _ => none
where
  fput : List (Str × D) → Str → D → List (Str × D)
    | [], f, d => [(f, d)]
    | (g, x) :: r, f, d => if g = f then (g, d) :: r else (g, x) :: fput r f d
def setItem' : D → D → D → Option D
  | .lst xs, .int i, v => (ixN xs.length i).map fun j => .lst (xs.set j v)
  | .dK es, k, v => dset (.dK es) k v
  | .dT es, k, v => dset (.dT es) k v
  | _, _, _ => none
/-- what pop gives and leaves -/
def popD : D → List D → Option (D × D)
  | .lst xs, [] => (xs[xs.length - 1]?).map fun y => (y, .lst xs.dropLast)
  | .lst xs, [.int i] => if smallI i then (seqIndex? i xs.length).bind fun k => (xs[k]?).map fun y => (y, .lst (xs.eraseIdx k)) else none
  | .dK es, [k] => (keyK k).bind fun k => (look es k).map fun v => (v, .dK (ddrop es k))
  | .dK es, [k, x] => (keyK k).map fun k => match look es k with
    | some v => (v, .dK (ddrop es k))
    | none => (x, .dK es)
  | _, _ => none
open Classical in
noncomputable def forGo (kp : Store → Env' → Prop) (f : D → Env' → Store → Option Out) : List D → Env' → Store → Option Out
  | [], ρ, S => some (.nxt ρ S)
  | x :: xs, ρ, S => (f x ρ S).bind fun o => match o with
    | .nxt ρ' S' => if kp S' ρ' then forGo kp f xs ρ' S' else none
    | .cnt ρ' S' => if kp S' ρ' then forGo kp f xs ρ' S' else none
    | .brk ρ' S' => if kp S' ρ' then some (.brk ρ' S') else none
    | .ret d S' => if kp S' ρ then some (.ret d S') else none
def whGo (c : Env' → Store → Option (Bool × Store)) (f : Env' → Store → Option Out) : Nat → Env' → Store → Option Out
  | 0, _, _ => none
  | n + 1, ρ, S => (c ρ S).bind fun b => if b.1 then (f ρ b.2).bind fun o => match o with
    | .nxt ρ' S' => whGo c f n ρ' S'
    | .cnt ρ' S' => whGo c f n ρ' S'
    | .brk ρ' S' => some (.nxt ρ' S')
    | .ret d S' => some (.ret d S') else some (.nxt ρ b.2)
/-- how often a while may turn -/
def whMost : Nat := 2 ^ 60
def Out.after (o : Out) (l : Option (Nat × D)) : Option Out := match o with
  | .nxt ρ S => (freeS S l).map fun S => .nxt ρ S
  | .ret d S => (freeS S l).map fun S => .ret d S
  | .brk ρ S => (freeS S l).map fun S => .nxt ρ S
  | .cnt ρ S => (freeS S l).map fun S => .nxt ρ S
def isFresh : Ex → Bool
  | .list _ => true
  | .dnew _ => true
  | .disp _ _ => true
  | .comp _ _ _ _ => true
  | .dcomp _ _ _ _ _ => true
  | .blt .list _ => true
  | .blt .sorted _ => true
  | .blt .dict _ => true
  | .lrng _ _ => true
  | .dcst _ => true
  | .sl _ _ _ => false
  | _ => false
mutual
noncomputable def evS (G : Fns) : Sm → Env' → Store → Option Out
  | .asg t e, ρ, S => (evE G e ρ S).bind fun x => (bindT t x.1 ρ).map fun ρ' => .nxt ρ' x.2
  | .own i e, ρ, S => if isFresh e then (evE G e ρ S).bind fun x => match x.1 with
      | .lst xs => some (.nxt (ρ.set i (.own (.lst xs))) x.2)
      | .dK xs => some (.nxt (ρ.set i (.own (.dK xs))) x.2)
      | .dT xs => some (.nxt (ρ.set i (.own (.dT xs))) x.2)
      | _ => none else none
  | .par is es, ρ, S => (evA G es ρ S).bind fun x => if x.1.length = is.length then some (.nxt ((is.zip x.1).foldl (fun ρ p => ρ.set p.1 (.fz p.2)) ρ) x.2) else none
  | .setf o f e, ρ, S => (evE G e ρ S).bind fun x => (evE G o ρ x.2).bind fun y => match y.1 with
      | .ref n => (setF G y.2 n f x.1).map fun S' => .nxt ρ S'
      | _ => none
  | .seti o k e, ρ, S => (evE G e ρ S).bind fun x => (hOf o ρ x.2 (evE G o ρ x.2)).bind fun y => (evE G k ρ y.2).bind fun z =>
      (cont ρ z.2 y.1).bind fun u => (setItem' u z.1 x.1).bind fun d => (putC ρ z.2 y.1 d).map fun q => .nxt q.1 q.2
  | .app o e, ρ, S => (hOf o ρ S (evE G o ρ S)).bind fun x => if isLst (cont ρ x.2 x.1) then (evE G e ρ x.2).bind fun y => (cont ρ y.2 x.1).bind fun u => match u with
      | .lst xs => if xs.length < sizeLine then (putC ρ y.2 x.1 (.lst (xs ++ [y.1]))).map fun q => .nxt q.1 q.2 else none
      | _ => none else none
  | .pop t o as, ρ, S => (hOf o ρ S (evE G o ρ S)).bind fun x => (evA G as ρ x.2).bind fun y => if isLst (cont ρ x.2 x.1) = isLst (cont ρ y.2 x.1) ∧ isDct (cont ρ x.2 x.1) = isDct (cont ρ y.2 x.1) then (cont ρ y.2 x.1).bind fun u => (popD u y.1).bind fun r =>
      (putC ρ y.2 x.1 r.2).bind fun q => match t with
      | none => some (.nxt q.1 q.2)
      | some t => (bindT t r.1 q.1).map fun ρ' => .nxt ρ' q.2 else none
  | .expr e, ρ, S => (evE G e ρ S).map fun x => .nxt ρ x.2
  | .aug i o e, ρ, S => (evE G e ρ S).bind fun x => match ρ[i]? with
      | some (.fz u) => (match u, x.1 with
        | .int a, .int b => (match o with
          | .Add => some (.nxt (ρ.set i (.fz (.int (a + b)))) x.2)
          | .Sub => some (.nxt (ρ.set i (.fz (.int (a - b)))) x.2)
          | _ => none)
        | _, _ => none)
      | _ => none
  | .ife c a b, ρ, S => (evE G c ρ S).bind fun x => (blOf x.1).bind fun k => if k then evSs G a ρ x.2 else evSs G b ρ x.2
  | .for_ t it b, ρ, S => (evI G it ρ S).bind fun w => if noSlot w.1 then (lockS ρ w.2.2 w.1).bind fun l =>
      (forGo (fun S' ρ' => cont ρ' S' w.1 = cont ρ l.1 w.1) (fun d ρ' S' => (bindT t d ρ').bind fun ρ2 => evSs G b ρ2 S') w.2.1 ρ l.1).bind fun o => o.after l.2 else none
  | .while_ c b, ρ, S => whGo (fun ρ' S' => (evE G c ρ' S').bind fun x => (blOf x.1).map fun k => (k, x.2)) (fun ρ' S' => evSs G b ρ' S') whMost ρ S
  | .ret e, ρ, S => (evE G e ρ S).map fun x => .ret x.1 x.2
  | .retN, _, S => some (.ret .non S)
  | .brk, ρ, S => some (.brk ρ S)
  | .cnt, ρ, S => some (.cnt ρ S)
  | .pass, ρ, S => some (.nxt ρ S)
noncomputable def evSs (G : Fns) : Sms → Env' → Store → Option Out
  | .nil, ρ, S => some (.nxt ρ S)
  | .cons s r, ρ, S => (evS G s ρ S).bind fun o => match o with
    | .nxt ρ' S' => evSs G r ρ' S'
    | .ret d S' => some (.ret d S')
    | .brk ρ' S' => some (.brk ρ' S')
    | .cnt ρ' S' => some (.cnt ρ' S')
  | .frz i r, ρ, S => match ρ[i]? with
    | some (.own d) => evSs G r (ρ.set i (.fz d)) S
    | _ => none
end
/-- a def: its names' places (how many, the parameters first), its body -/
structure Fd where
  np : Nat
  ns : Nat
  body : Sms
structure Prog where
  defs : List ((Str × Option Str) × Fd)
  flds : List (Str × List Str)
def Prog.fld (T : Prog) (C f : Str) : Bool := match T.flds.lookup C with
  | some l => decide (f ∈ l)
  | none => false
noncomputable def runF (T : Prog) : Nat → Str × Option Str → List D → Store → Option (D × Store)
  | 0 => fun _ _ _ => none
  | n + 1 => fun f ds S => match T.defs.lookup f with
    | some fd => if ds.length = fd.np then (evSs ⟨runF T n, T.fld⟩ fd.body (ds.map Slot.fz ++ List.replicate (fd.ns - fd.np) .un) S).bind fun o => match o with
        | .ret d S' => some (d, S')
        | .nxt _ S' => some (.non, S')
        | _ => none else none
    | none => none
noncomputable def run (T : Prog) (n : Nat) : Fns := ⟨runF T n, T.fld⟩
end Z

set_option Elab.async false
set_option linter.all false
set_option maxRecDepth 100000
set_option maxHeartbeats 4000000
namespace Z
open PySem PySem.Spec PyProof.Rows L2

/-! # growing -/
structure Grow (F H F' H' : Hp) : Prop where
  h : LeH H H'
  f : LeH F F'
  new : ∀ a o, F' a = some o → F a = some o ∨ (H' a = some o ∧ (H a = none ∨ ∃ vs, o = .tup vs))
theorem Grow.refl {F H : Hp} : Grow F H F H := ⟨LeH.refl _, LeH.refl _, fun _ _ h => .inl h⟩
theorem Grow.one {F H : Hp} {a : Addr} {o : HO} (hF : F a = none) (hH : H a = none) : Grow F H (upd F a o) (upd H a o) :=
  ⟨LeH.upd hH, LeH.upd hF, fun b u e => by
    by_cases h : b = a
    · subst h; rw [upd_same] at e; cases e; exact .inr ⟨upd_same, .inl hH⟩
    · rw [upd_ne h] at e; exact .inl e⟩
theorem LeH.rd {H H' : Hp} (h : LeH H H') {a : Addr} {o : HO} (r : Rd H a o) : Rd H' a o := by
  rcases r with r | ⟨ob, r⟩
  · exact .inl (h _ _ r)
  · exact .inr ⟨ob, h _ _ r⟩
theorem SubH.rd {H : Hp} {a : Addr} {o : HO} (s : SubH H a o) : Rd H a o := by
  rcases s with s | ⟨_, ob, s⟩
  · exact .inl s
  · exact .inr ⟨ob, s⟩
theorem SubH.le {H H' : Hp} {a : Addr} {o : HO} (h : LeH H H') (s : SubH H a o) : SubH H' a o := by
  rcases s with s | ⟨k, ob, s⟩
  · exact .inl (h _ _ s)
  · exact .inr ⟨k, ob, h _ _ s⟩
theorem SubH.lst {H : Hp} {a : Addr} {vs : List V} (s : SubH H a (.lst vs)) : H a = some (.lst vs) := by
  rcases s with s | ⟨⟨_, k⟩ | ⟨_, k⟩ | ⟨_, _, k⟩, _, _⟩
  · exact s
  · cases k
  · cases k
  · cases k
theorem SubH.tup {H : Hp} {a : Addr} {vs : List V} (s : SubH H a (.tup vs)) : TupAt H a vs := by
  rcases s with s | ⟨⟨_, k⟩ | ⟨_, k⟩ | ⟨ws, h, k⟩, ob, q⟩
  · exact ⟨.inl s, .inl s⟩
  · cases k
  · cases k
  · cases k; exact ⟨.inr ⟨ob, q⟩, .inr h⟩
section
variable {p : Pg} {Pr : Hp} {ρ : Env'} {S : Store} {F F' : Hp} {ι : List Addr} {α : Nat → Addr} {σ : L2.St} {H H' : Hp}
theorem same_at {a : Addr} {o : HO} (h : LeH H H') (e : H a = some o) : H' a = H a := by
  rw [h _ _ e, e]
theorem Grow.none {a : Addr} {u : HO} (g : Grow F H F' H') (hF : F a = Option.none) (t : H a = some u) (n : NoT u) : F' a = Option.none := by
  cases e : F' a with
  | none => rfl
  | some o =>
    rcases g.new a o e with h | ⟨h, k | ⟨vs, k⟩⟩
    · rw [hF] at h; cases h
    · rw [t] at k; cases k
    · rw [g.h _ _ t] at h; cases h; rw [k] at n; exact n.elim
theorem Grow.trans {G I : Hp} (a : Grow F H F' H') (b : Grow F' H' G I) : Grow F H G I := ⟨a.h.trans b.h, a.f.trans b.f, fun x o e => by
  rcases b.new x o e with h | ⟨h, k⟩
  · rcases a.new x o h with h | ⟨h, k⟩
    · exact .inl h
    · exact .inr ⟨b.h _ _ h, k⟩
  · refine .inr ⟨h, k.imp (fun k => ?_) id⟩
    cases q : H x with
    | none => rfl
    | some u => rw [a.h _ _ q] at k; cases k⟩
theorem Wd.fresh (R : Wd p Pr S F ι H) {a : Addr} (h : H a = none) : F a = none := by
  cases e : F a with
  | none => rfl
  | some o =>
    rcases R.sub a o e with r | ⟨_, ob, r⟩
    · rw [h] at r; cases r
    · rw [h] at r; cases r
theorem Wd.notin (R : Wd p Pr S F ι H) {a : Addr} (h : H a = none) : a ∉ ι := fun hm => by
  obtain ⟨n, hn⟩ := List.getElem?_of_mem hm
  have hl : n < S.length := by rw [← R.len]; exact (List.getElem?_eq_some_iff.mp hn).1
  obtain ⟨_, t⟩ := R.cell n S[n] a (List.getElem?_eq_getElem hl) hn
  obtain ⟨o, t, _⟩ := t.there
  rw [h] at t; cases t
theorem Wd.grow (R : Wd p Pr S F ι H) (g : Grow F H F' H') : Wd p Pr S F' ι H' where
  sub := fun a o e => by
    rcases g.new a o e with h | ⟨h, _⟩
    · exact (R.sub a o h).le g.h
    · exact .inl h
  con := fun x d h => let ⟨u, v, h1, h2, h3⟩ := R.con x d h; ⟨u, v, h1, h2, h3.le g.f (LeA.refl _)⟩
  len := R.len
  nd := R.nd
  cell := fun n c a h1 h2 => by
    obtain ⟨q1, q2⟩ := R.cell n c a h1 h2
    obtain ⟨o, t, nt⟩ := q2.there
    exact ⟨g.none q1 t nt, q2.le g.f (LeA.refl _) (same_at g.h t)⟩
  prot := fun a o h => by
    obtain ⟨q1, q2, q3⟩ := R.prot a o h
    refine ⟨g.h _ _ q1, ?_, q3⟩
    by_cases hl : Loose o
    · exact .inr hl
    · rcases q2 with q2 | q2
      · refine .inl (g.none q2 q1 ?_)
        cases o <;> first | exact trivial | exact absurd trivial hl
      · exact .inr q2
theorem Rel.grow (R : Rel p Pr ρ S F ι α σ H) (g : Grow F H F' H') : Rel p Pr ρ S F' ι α σ H' where
  wd := R.wd.grow g
  fz := fun i d h => let ⟨v, h1, h2⟩ := R.fz i d h; ⟨v, h1, h2.le g.f (LeA.refl _)⟩
  own := fun i d h => by
    obtain ⟨h1, h2, h3, h4, h5⟩ := R.own i d h
    obtain ⟨o, t, _, nt, _⟩ := h4.there
    exact ⟨h1, g.none h2 t nt, h3, h4.le g.f (LeA.refl _) (same_at g.h t), h5⟩
  lng := R.lng
  inj := R.inj
end

/-! # what an operation sees -/
def CV (p : Pg) (F : Hp) (ι : List Addr) (H : Hp) (v : V) : D → Prop
  | .non => v = .non | .bl b => v = .bl b | .int i => v = .int i | .str x => v = .str x
  | .lst ds => ∃ a vs, v = .ref a ∧ SqL p.K H a vs ∧ Reps p.K F ι vs ds
  | .tup ds => ∃ a vs, v = .ref a ∧ TupAt H a vs ∧ Reps p.K F ι vs ds
  | .dK es => ∃ a kvs, v = .ref a ∧ Rd H a (.dK kvs) ∧ kvs.map (·.1) = es.map (·.1) ∧ Reps p.K F ι (kvs.map (·.2)) (es.map (·.2))
  | .dT es => ∃ a kvs, v = .ref a ∧ Rd H a (.dT kvs) ∧ kvs.map (·.1) = es.map (·.1) ∧ Reps p.K F ι (kvs.map (·.2)) (es.map (·.2))
  | .ref _ => False
def HRep (p : Pg) (F : Hp) (ι : List Addr) (α : Nat → Addr) (v : V) : Hd → Prop
  | .val d => Rep p.K F ι v d
  | .slot i => v = .ref (α i)
section
variable {p : Pg} {Pr : Hp} {ρ : Env'} {S : Store} {F F' : Hp} {ι ι' : List Addr} {α : Nat → Addr} {σ : L2.St} {H H' : Hp} {v : V} {d : D} {h : Hd}
theorem HRep.le (a : LeH F F') (b : LeA ι ι') (r : HRep p F ι α v h) : HRep p F' ι' α v h := by
  cases h with
  | val d => exact Rep.le a b r
  | slot i => exact r
theorem CV.of_rep (s : ∀ a o, F a = some o → SubH H a o) (r : Rep p.K F ι v d) (hd : ∀ n, d ≠ .ref n) : CV p F ι H v d := by
  cases r with
  | non => rfl
  | bl b => rfl
  | int i => rfl
  | str x => rfl
  | lst a r => exact ⟨_, _, rfl, .of (s _ _ a).lst, r⟩
  | tup a r => exact ⟨_, _, rfl, (s _ _ a).tup, r⟩
  | dK a e r => exact ⟨_, _, rfl, (s _ _ a).rd, e, r⟩
  | dT a e r => exact ⟨_, _, rfl, (s _ _ a).rd, e, r⟩
  | ref e => exact absurd rfl (hd _)
theorem CV.of_c {a : Addr} (r : CRep p.K F ι H a d) : CV p F ι H (.ref a) d := by
  cases d <;> simp only [CRep] at r
  · obtain ⟨vs, e, q⟩ := r; exact ⟨_, _, rfl, .inl (.inl e), q⟩
  · obtain ⟨vs, e, k, q⟩ := r; exact ⟨_, _, rfl, .inl e, k, q⟩
  · obtain ⟨vs, e, k, q⟩ := r; exact ⟨_, _, rfl, .inl e, k, q⟩
theorem CV.of_l {a : Addr} (r : LRep p.K F ι H a d) : CV p F ι H (.ref a) d := by
  cases d <;> simp only [LRep] at r
  · obtain ⟨o, vs, e, q⟩ := r; exact ⟨_, _, rfl, .inl (.inr ⟨_, e⟩), q⟩
  · obtain ⟨o, vs, e, k, q⟩ := r; exact ⟨_, _, rfl, .inr ⟨_, e⟩, k, q⟩
  · obtain ⟨o, vs, e, k, q⟩ := r; exact ⟨_, _, rfl, .inr ⟨_, e⟩, k, q⟩
theorem Wd.at {n : Nat} {c : Cell} (R : Wd p Pr S F ι H) (h : S[n]? = some c) : ∃ a, ι[n]? = some a ∧ F a = none ∧ CellRep p F ι H a c := by
  have hl : n < ι.length := by rw [R.len]; exact (List.getElem?_eq_some_iff.mp h).1
  exact ⟨ι[n], List.getElem?_eq_getElem hl, R.cell n c _ h (List.getElem?_eq_getElem hl)⟩
theorem cont_val (hd : ∀ n, d ≠ .ref n) : cont ρ S (.val d) = some d := by
  cases d <;> first | rfl | exact absurd rfl (hd _)
theorem cv_of (R : Rel p Pr ρ S F ι α σ H) (r : HRep p F ι α v h) (e : cont ρ S h = some d) : CV p F ι H v d := by
  cases h with
  | slot i =>
    cases (show v = .ref (α i) from r)
    simp only [cont] at e
    split at e
    · rename_i u hu
      cases e
      exact .of_c (R.own i _ hu).2.2.2.1
    · cases e
  | val u =>
    have r : Rep p.K F ι v u := r
    by_cases hr : ∃ n, u = .ref n
    · obtain ⟨n, rfl⟩ := hr
      cases r with
      | ref hn =>
        simp only [cont] at e
        split at e
        · rename_i c hc
          cases e
          obtain ⟨b, hb, _, q⟩ := R.wd.at hc
          rw [hn] at hb; cases hb
          exact .of_c q
        · rename_i c hc
          cases e
          obtain ⟨b, hb, _, q⟩ := R.wd.at hc
          rw [hn] at hb; cases hb
          exact .of_l q
        · cases e
    · have hd : ∀ n, u ≠ .ref n := fun n q => hr ⟨n, q⟩
      rw [cont_val hd] at e
      cases e
      exact .of_rep R.wd.sub r hd
mutual
theorem dp_of (s : ∀ a o, F a = some o → SubH H a o) : ∀ {d : D} {v : V}, Rep p.K F ι v d → d.plain = true → Dp p.K H v d.py
  | _, _, .non, _ => by rw [D.py]; exact .non
  | _, _, .bl b, _ => by rw [D.py]; exact .bl b
  | _, _, .int i, _ => by rw [D.py]; exact .int i
  | _, _, .str x, _ => by rw [D.py]; exact .str x
  | _, _, .lst a r, h => by rw [D.py]; rw [D.plain] at h; exact .lst (.of (s _ _ a).lst) (dps_of s r h)
  | _, _, .tup a r, h => by rw [D.py]; rw [D.plain] at h; exact .tup (s _ _ a).tup.sq (dps_of s r h)
  | _, _, .dK _ _ _, h => by rw [D.plain] at h; cases h
  | _, _, .dT _ _ _, h => by rw [D.plain] at h; cases h
  | _, _, .ref _, h => by rw [D.plain] at h; cases h
theorem dps_of (s : ∀ a o, F a = some o → SubH H a o) : ∀ {ds : List D} {vs : List V}, Reps p.K F ι vs ds → plains ds = true → DpAll p.K H vs (pys ds)
  | _, _, .nil, _ => by rw [pys]; exact .nil
  | _, _, .cons a r, h => by
    rw [plains, Bool.and_eq_true] at h
    rw [pys]
    exact .cons (dp_of s a h.1) (dps_of s r h.2)
end
theorem CV.dp (s : ∀ a o, F a = some o → SubH H a o) (r : CV p F ι H v d) (h : d.plain = true) : Dp p.K H v d.py := by
  cases d with
  | non => cases (show v = .non from r); rw [D.py]; exact .non
  | bl b => cases (show v = .bl b from r); rw [D.py]; exact .bl b
  | int i => cases (show v = .int i from r); rw [D.py]; exact .int i
  | str x => cases (show v = .str x from r); rw [D.py]; exact .str x
  | lst ds => obtain ⟨a, vs, rfl, q1, q2⟩ := r; rw [D.plain] at h; rw [D.py]; exact .lst q1 (dps_of s q2 h)
  | tup ds => obtain ⟨a, vs, rfl, q1, q2⟩ := r; rw [D.plain] at h; rw [D.py]; exact .tup q1.sq (dps_of s q2 h)
  | dK _ => rw [D.plain] at h; cases h
  | dT _ => rw [D.plain] at h; cases h
  | ref _ => rw [D.plain] at h; cases h
end
mutual
theorem lay_plain : ∀ d : D, d.plain = true → d.py.canLay0 = true
  | .non, _ => by simp [D.py, PyData.canLay0]
  | .bl b, _ => by simp [D.py, PyData.canLay0]
  | .int i, _ => by simp [D.py, PyData.canLay0]
  | .str x, h => by rw [D.plain] at h; simp [D.py, PyData.canLay0, h]
  | .lst xs, h => by rw [D.plain] at h; rw [D.py, PyData.canLay0]; exact lays_plain xs h
  | .tup xs, h => by rw [D.plain] at h; rw [D.py, PyData.canLay0]; exact lays_plain xs h
  | .dK _, h => by rw [D.plain] at h; cases h
  | .dT _, h => by rw [D.plain] at h; cases h
  | .ref _, h => by rw [D.plain] at h; cases h
theorem lays_plain : ∀ ds : List D, plains ds = true → PyData.canLayAll0 (pys ds) = true
  | [], _ => by simp [pys, PyData.canLayAll0]
  | d :: ds, h => by
    rw [plains, Bool.and_eq_true] at h
    rw [pys, PyData.canLayAll0, lay_plain d h.1, lays_plain ds h.2]; rfl
end
theorem shaped_of {d : D} (h : d.fit = true) : SeqAt.shaped d.py = true := by
  unfold D.fit at h
  simp only [Bool.and_eq_true, decide_eq_true_eq] at h
  unfold SeqAt.shaped
  rw [lay_plain d h.1, Bool.true_and, decide_eq_true_eq]
  have := h.2
  unfold D.dep at this
  omega
theorem fit_plain {d : D} (h : d.fit = true) : d.plain = true := by
  unfold D.fit at h
  simp only [Bool.and_eq_true] at h
  exact h.1
mutual
theorem py_inj : ∀ a b : D, a.plain = true → b.plain = true → a.py = b.py → a = b
  | .non, b, _, hb, e => by cases b <;> simp_all [D.py, D.plain]
  | .bl _, b, _, hb, e => by cases b <;> simp_all [D.py, D.plain]
  | .int _, b, _, hb, e => by cases b <;> simp_all [D.py, D.plain]
  | .str _, b, _, hb, e => by cases b <;> simp_all [D.py, D.plain]
  | .lst xs, b, ha, hb, e => by
    cases b with
    | lst ys =>
      rw [D.plain] at ha hb
      rw [D.py, D.py] at e
      rw [pys_inj xs ys ha hb (by injection e)]
    | _ => simp_all [D.py, D.plain]
  | .tup xs, b, ha, hb, e => by
    cases b with
    | tup ys =>
      rw [D.plain] at ha hb
      rw [D.py, D.py] at e
      rw [pys_inj xs ys ha hb (by injection e)]
    | _ => simp_all [D.py, D.plain]
  | .dK _, _, ha, _, _ => by rw [D.plain] at ha; cases ha
  | .dT _, _, ha, _, _ => by rw [D.plain] at ha; cases ha
  | .ref _, _, ha, _, _ => by rw [D.plain] at ha; cases ha
theorem pys_inj : ∀ a b : List D, plains a = true → plains b = true → pys a = pys b → a = b
  | [], [], _, _, _ => rfl
  | [], _ :: _, _, _, e => by rw [pys, pys] at e; cases e
  | _ :: _, [], _, _, e => by rw [pys, pys] at e; cases e
  | x :: xs, y :: ys, ha, hb, e => by
    rw [plains, Bool.and_eq_true] at ha hb
    rw [pys, pys] at e
    injection e with e1 e2
    rw [py_inj x y ha.1 hb.1 e1, pys_inj xs ys ha.2 hb.2 e2]
end
theorem pys_map : ∀ ds : List D, pys ds = ds.map D.py
  | [] => by rw [pys]; rfl
  | d :: ds => by rw [pys, pys_map ds]; rfl
theorem plains_mem : ∀ {ds : List D}, plains ds = true → ∀ d ∈ ds, d.plain = true
  | d :: ds, h, e, he => by
    rw [plains, Bool.and_eq_true] at h
    rcases List.mem_cons.mp he with rfl | he
    · exact h.1
    · exact plains_mem h.2 e he

/-! # judgements -/
section
variable (X : Cx)
def wE (e : Expr) : TE := fun σ H Q => ∀ pins s, Inv X pins σ H s → wpAny (model X.prog X.w) X.A (eval e X.env) (EP X pins σ Q) X.xe s
def wT (e : Expr) : TT := fun σ H Q => ∀ pins s, Inv X pins σ H s → wpAny (model X.prog X.w) X.A (isTrue e X.env (eval e X.env)) (TP X pins σ Q) X.xe s
def wA (es : List Expr) : TA := fun σ H Q => ∀ pos pins s, Inv X pins σ H s → wpAny (model X.prog X.w) X.A (spliced (backTo pos (starEach es X.env))) (AP X pins σ Q) X.xe s
def wS (st : Stmt) : TS := fun D σ H => ∀ pins s, Inv X pins σ H s → wpAny (model X.prog X.w) X.A (exec st X.env) (SP X pins D) X.xe s
def wSs (st : List Stmt) : TS := fun D σ H => ∀ pins s, Inv X pins σ H s → wpAny (model X.prog X.w) X.A (execs st X.env) (SP X pins D) X.xe s
end
section
variable {X : Cx} {e : Expr} {es : List Expr} {st : Stmt} {sts : List Stmt} {σ : L2.St} {H : Hp}
theorem peW : PE X e (wE X e) := ⟨fun pins s _ _ _ I h => h pins s I⟩
theorem ptW : PT X e (wT X e) := ⟨fun pins s _ _ _ I h => h pins s I⟩
theorem paW : PA X es (wA X es) := ⟨fun pos pins s _ _ _ I h => h pos pins s I⟩
theorem psW : PS X st (wS X st) := ⟨fun pins s _ _ _ I h => h pins s I⟩
theorem pssW : PSs X sts (wSs X sts) := ⟨fun pins s _ _ _ I h => h pins s I⟩
theorem wE_of {t : TE} {Q : VK} (h : PE X e t) (q : t σ H Q) : wE X e σ H Q := fun pins s I => h.run pins s σ H Q I q
theorem wT_of {t : TT} {Q : Bool → Hp → Prop} (h : PT X e t) (q : t σ H Q) : wT X e σ H Q := fun pins s I => h.run pins s σ H Q I q
theorem wA_of {t : TA} {Q : List V → Hp → Prop} (h : PA X es t) (q : t σ H Q) : wA X es σ H Q := fun pos pins s I => h.run pos pins s σ H Q I q
theorem wS_of {t : TS} {D : Ends} (h : PS X st t) (q : t D σ H) : wS X st D σ H := fun pins s I => h.run pins s σ H D I q
theorem wSs_of {t : TS} {D : Ends} (h : PSs X sts t) (q : t D σ H) : wSs X sts D σ H := fun pins s I => h.run pins s σ H D I q
end

def _root_.L2.Cx.pg (X : Cx) (cls : Str → Option Addr) (con : Str → Option D) : Pg := ⟨X.prog, X.w, X.K, X.mg, X.base, cls, con⟩
/-- where an expression stands: the names by places, the scope, which names' cells are its own -/
structure Good (p : Pg) (N : List Str) (sc : Scope) (fn : Str → Bool) (k : Nat) (X : Cx) : Prop where
  pg : X.pg p.cls p.con = p
  calm : X.calm = true
  hN : X.N = N
  nd : List.Nodup N
  sc : X.env.scope = sc
  fn : X.fn = fn
  xe : X.xe = fun _ _ => False
  room : Room k X.A
  grd : X.A.guards = some []
def FE (p : Pg) (X : Cx) (ρ : Env') (S : Store) (e : Expr) (r : Option (D × Store)) : Prop :=
  ∀ Pr F ι α σ H, Rel p Pr ρ S F ι α σ H → ∀ d S', r = some (d, S') → ∀ Q : VK,
    (∀ v F' ι' H', Rel p Pr ρ S' F' ι' α σ H' → LeH F F' → LeA ι ι' → Rep p.K F' ι' v d → Q v H') → wE X e σ H Q
def FH (p : Pg) (X : Cx) (ρ : Env') (S : Store) (e : Expr) (r : Option (Hd × Store)) : Prop :=
  ∀ Pr F ι α σ H, Rel p Pr ρ S F ι α σ H → ∀ h S', r = some (h, S') → ∀ Q : VK,
    (∀ v F' ι' H', Rel p Pr ρ S' F' ι' α σ H' → LeH F F' → LeA ι ι' → HRep p F' ι' α v h → Q v H') → wE X e σ H Q
def FT (p : Pg) (X : Cx) (ρ : Env') (S : Store) (e : Expr) (r : Option (D × Store)) : Prop :=
  ∀ Pr F ι α σ H, Rel p Pr ρ S F ι α σ H → ∀ b S', r = some (.bl b, S') → ∀ Q : Bool → Hp → Prop,
    (∀ F' ι' H', Rel p Pr ρ S' F' ι' α σ H' → LeH F F' → LeA ι ι' → Q b H') → wT X e σ H Q
def FA (p : Pg) (X : Cx) (ρ : Env') (S : Store) (es : List Expr) (r : Option (List D × Store)) : Prop :=
  ∀ Pr F ι α σ H, Rel p Pr ρ S F ι α σ H → ∀ ds S', r = some (ds, S') → ∀ Q : List V → Hp → Prop,
    (∀ vs F' ι' H', Rel p Pr ρ S' F' ι' α σ H' → LeH F F' → LeA ι ι' → Reps p.K F' ι' vs ds → Q vs H') → wA X es σ H Q
abbrev HReps (p : Pg) (F : Hp) (ι : List Addr) (α : Nat → Addr) : List V → List Hd → Prop := Paired (HRep p F ι α)
def FHs (p : Pg) (X : Cx) (ρ : Env') (S : Store) (es : List Expr) (r : Option (List Hd × Store)) : Prop :=
  ∀ Pr F ι α σ H, Rel p Pr ρ S F ι α σ H → ∀ hs S', r = some (hs, S') → ∀ Q : List V → Hp → Prop,
    (∀ vs F' ι' H', Rel p Pr ρ S' F' ι' α σ H' → LeH F F' → LeA ι ι' → HReps p F' ι' α vs hs → Q vs H') → wA X es σ H Q
end Z

set_option Elab.async false
set_option linter.all false
set_option maxRecDepth 100000
set_option maxHeartbeats 4000000
namespace Z
open PySem PySem.Spec PyProof.Rows L2

/-! # operations on values -/
def wR (X : Cx) (f : Value → Value → Sem Value) : R2 := fun x y H Q => ∀ pins s σ v u, Inv X pins σ H s → RelV x v → RelV y u → wpAny (model X.prog X.w) X.A (f v u) (EP X pins σ Q) X.xe s
theorem wR_ok {X : Cx} {f : Value → Value → Sem Value} : OpR X f (wR X f) := fun pins s σ _ _ _ v u _ I rx ry h => h pins s σ v u I rx ry
theorem wR_of {X : Cx} {f : Value → Value → Sem Value} {r : R2} (h : OpR X f r) {x y : V} {H : Hp} {Q : VK} (q : r x y H Q) : wR X f x y H Q := fun pins s σ v u I rx ry => h pins s σ H x y v u Q I rx ry q

theorem addSeq {prog : Program} {w : World} {A : Around} {E : Value → Shared → Prop} {s : Shared} {l b : Addr} {vs ws : List Value} {Q : Value → Shared → Prop} (hl : s.heap.IsList l vs.toArray) (hb : s.heap.IsList b ws.toArray) (hz : vs.length + ws.length ≤ sizeLine)
    (h : Q (.ref s.heap.objs.size) { s with heap := s.heap.push { cls := .type "list", data := .seq (vs ++ ws).toArray } }) : wpAny (model prog w) A (binaryOp .Add (.ref l) (.ref b)) Q E s := by
  obtain ⟨⟨c1, d1, t1, s1⟩, g1, k1, n1, q1⟩ := id hl
  obtain ⟨⟨c2, d2, t2, s2⟩, g2, k2, n2, q2⟩ := id hb
  dsimp only at k1 q1 k2 q2
  subst k1 q1 k2 q2
  have e : (vs ++ ws).toArray = vs.toArray ++ ws.toArray := by simp
  rw [e] at h
  exact concat_meets ⟨_, g1, rfl⟩ ⟨_, g2, rfl⟩ noFill_list_add seq_list_add PySem.F.slot_list_add PySem.F.entry_list_add (PySem.F.args_list_add_2 _ _)
    (list_addW l b vs.toArray ws.toArray n1 n2 d1 d2 s1 s2 (by simpa using hz)) ⟨g1, g2, h⟩

section
variable {p : Pg} {X : Cx} {F H : Hp} {ι : List Addr} {x y : V} {u v d : D}
/-- a new list of the frozen part -/
theorem newL {Q : VK} {a : Addr} {vs : List V} {ds : List D} (S : ∀ a o, F a = some o → SubH H a o) (r : Reps p.K F ι vs ds) (ha : H a = none) (k : ∀ z F' H', Grow F H F' H' → Rep p.K F' ι z (.lst ds) → Q z H') : Q (.ref a) (upd H a (.lst vs)) := by
  have hF : F a = none := by
    cases e : F a with
    | none => rfl
    | some o => rcases S a o e with q | ⟨_, _, q⟩ <;> rw [ha] at q <;> cases q
  exact k _ _ _ (Grow.one hF ha) (.lst upd_same (r.le (LeH.upd hF) (LeA.refl _)))
theorem newT {Q : VK} {a : Addr} {vs : List V} {ds : List D} (S : ∀ a o, F a = some o → SubH H a o) (r : Reps p.K F ι vs ds) (ha : H a = none) (k : ∀ z F' H', Grow F H F' H' → Rep p.K F' ι z (.tup ds) → Q z H') : Q (.ref a) (upd H a (.tup vs)) := by
  have hF : F a = none := by
    cases e : F a with
    | none => rfl
    | some o => rcases S a o e with q | ⟨_, _, q⟩ <;> rw [ha] at q <;> cases q
  exact k _ _ _ (Grow.one hF ha) (.tup upd_same (r.le (LeH.upd hF) (LeA.refl _)))

theorem bin_ok (o : Operator) (hp : X.pg p.cls p.con = p) (S : ∀ a o, F a = some o → SubH H a o) (cx : CV p F ι H x u) (cy : CV p F ι H y v) (fx : Rep p.K F ι x u ∨ ∀ ds, u ≠ .tup ds) (fy : Rep p.K F ι y v ∨ ∀ ds, v ≠ .tup ds) (e : binD o u v = some d) {Q : VK} (k : ∀ z F' H', Grow F H F' H' → Rep p.K F' ι z d → Q z H') : wR X (binaryOp o) x y H Q := by
  have hK : X.K = p.K := by rw [← hp]; rfl
  unfold binD at e
  split at e
  · cases cx; cases cy; cases e
    exact wR_of op_add ⟨_, _, rfl, rfl, k _ _ _ .refl (.int _)⟩
  · split at e
    · rename_i hz
      cases cx; cases cy; cases e
      exact wR_of op_add_str ⟨_, _, rfl, rfl, hz, k _ _ _ .refl (.str _)⟩
    · cases e
  · split at e
    · rename_i hz
      cases e
      obtain ⟨a, vs, rfl, q1, r1⟩ := cx
      obtain ⟨b, ws, rfl, q2, r2⟩ := cy
      intro pins s σ v u I rx ry
      cases rx; cases ry
      rw [← hK] at q1 q2
      obtain ⟨its, w1, p1, _⟩ := I.list q1
      obtain ⟨its2, w2, p2, _⟩ := I.list q2
      have hz' : vs.length + ws.length ≤ sizeLine := by rw [r1.length, r2.length]; exact hz
      refine addSeq p1.isList p2.isList (by rw [← w1.length, ← w2.length]; exact hz') ?_
      refine ⟨.ref s.heap.objs.size, _, I.lnew (ys := vs ++ ws) (w1.append w2) (by rw [List.length_append]; exact hz'), rfl, ?_⟩
      exact newL S (r1.app r2) (I.hok.fresh (Nat.le_refl _)) k
    · cases e
  · split at e
    · rename_i hz
      cases e
      obtain ⟨a, vs, rfl, q1, r1⟩ := cx
      obtain ⟨b, ws, rfl, q2, r2⟩ := cy
      refine wR_of op_catA ⟨a, b, vs, ws, rfl, rfl, q1.sq, q2.sq, by rw [r1.length, r2.length]; exact hz, fun h0 => ?_, fun h0 h1 => ?_, fun h0 h1 c hc => ?_⟩
      · subst h0
        cases r1
        rw [List.nil_append] at k
        exact k _ _ _ .refl (fy.resolve_right fun q => q _ rfl)
      · subst h1
        cases r2
        rw [List.append_nil] at k
        exact k _ _ _ .refl (fx.resolve_right fun q => q _ rfl)
      · exact newT S (r1.app r2) hc k
    · cases e
  · cases cx; cases cy; cases e
    exact wR_of op_sub ⟨_, _, rfl, rfl, k _ _ _ .refl (.int _)⟩
  · split at e
    · rename_i x n h
      obtain ⟨a1, a2, a3, a4, a5⟩ := h
      cases cx; cases cy; cases e
      intro pins s σ v u I rx ry
      obtain ⟨t, rfl⟩ := rx
      obtain ⟨t', rfl⟩ := ry
      have hz : sizeLine = 16777216 := sizeLine_eq
      have n1 : ¬ n < 1 := by omega
      have n2 : (n == 1 || x.length == 0) = false := by
        rw [Bool.or_eq_false_iff, beq_eq_false_iff_ne, beq_eq_false_iff_ne]
        constructor <;> omega
      refine P.mul_str ?_ (fun _ _ => ?_) (fun _ _ => ?_) ?_
      · rw [Bool.or_eq_false_iff, decide_eq_false_iff_not, decide_eq_false_iff_not]
        constructor <;> omega
      · have h1 : (x.length : Int) * n ≤ 1000 * 1000 := Int.mul_le_mul (by omega) (by omega) (by omega) (by omega)
        have h2 : (x.length : Int) ≤ (2 ^ 63 - 1) / n := Int.le_ediv_of_mul_le (by omega) (by omega)
        omega
      · have : x.length * n.toNat ≤ 1000 * 1000 := Nat.mul_le_mul a4 (by omega)
        unfold Builtin.Str.tooLong
        rw [decide_eq_false_iff_not]
        omega
      · rw [if_neg n1, n2]
        exact ⟨by show (timesS x n.toNat).length ≤ sizeLine; omega, ⟨.str (timesS x n.toNat), H, I.tok _, ⟨_, rfl⟩, k _ _ _ .refl (.str _)⟩⟩
    · cases e
  · split at e
    · rename_i hz
      cases cx; cases cy; cases e
      exact wR_of op_mul ⟨_, _, rfl, rfl, hz, k _ _ _ .refl (.int _)⟩
    · cases e
  · split at e
    · rename_i hz
      cases cx; cases cy; cases e
      exact wR_of op_fdiv ⟨_, _, rfl, rfl, hz, k _ _ _ .refl (.int _)⟩
    · cases e
  · split at e
    · rename_i hz
      cases cx; cases cy; cases e
      exact wR_of op_mod ⟨_, _, rfl, rfl, hz, k _ _ _ .refl (.int _)⟩
    · cases e
  · cases e

end

/-! ## dicts -/
section
variable {κ : Type} [DecidableEq κ] {K : PySem.W.Frag} {F : Hp} {ι : List Addr}
/-- a dict's pairs, by values and by data -/
def RKV (K : PySem.W.Frag) (F : Hp) (ι : List Addr) (kvs : List (κ × V)) (es : List (κ × D)) : Prop := kvs.map (·.1) = es.map (·.1) ∧ Reps K F ι (kvs.map (·.2)) (es.map (·.2))
theorem RKV.len {kvs : List (κ × V)} {es : List (κ × D)} (r : RKV K F ι kvs es) : kvs.length = es.length := by
  have := congrArg List.length r.1
  rwa [List.length_map, List.length_map] at this
theorem RKV.nil : RKV K F ι ([] : List (κ × V)) [] := ⟨rfl, .nil⟩
theorem RKV.cons {k : κ} {v : V} {d : D} {kvs : List (κ × V)} {es : List (κ × D)} (a : Rep K F ι v d) (r : RKV K F ι kvs es) : RKV K F ι ((k, v) :: kvs) ((k, d) :: es) :=
  ⟨by rw [List.map_cons, List.map_cons, r.1], .cons a r.2⟩
theorem RKV.elim {kvs : List (κ × V)} {es : List (κ × D)} (r : RKV K F ι kvs es) : (kvs = [] ∧ es = []) ∨ ∃ k v d kvs' es', kvs = (k, v) :: kvs' ∧ es = (k, d) :: es' ∧ Rep K F ι v d ∧ RKV K F ι kvs' es' := by
  cases kvs with
  | nil =>
    cases es with
    | nil => exact .inl ⟨rfl, rfl⟩
    | cons e es => have := r.1; simp at this
  | cons kv kvs =>
    cases es with
    | nil => have := r.1; simp at this
    | cons e es =>
      obtain ⟨k, v⟩ := kv
      obtain ⟨k', d⟩ := e
      have h1 := r.1
      rw [List.map_cons, List.map_cons] at h1
      injection h1 with h1 h2
      have h3 : Reps K F ι (v :: kvs.map (·.2)) (d :: es.map (·.2)) := r.2
      cases h3 with
      | cons a b =>
        have h1 : k = k' := h1
        subst h1
        exact .inr ⟨k, v, d, kvs, es, rfl, rfl, a, h2, b⟩
theorem RKV.look (k : κ) : ∀ {kvs : List (κ × V)} {es : List (κ × D)}, RKV K F ι kvs es → (Z.look es k = none ∧ valV kvs k = none) ∨ ∃ v d, Z.look es k = some d ∧ valV kvs k = some v ∧ Rep K F ι v d := by
  intro kvs
  induction kvs with
  | nil =>
    intro es r
    rcases r.elim with ⟨_, rfl⟩ | ⟨_, _, _, _, _, h, _⟩
    · exact .inl ⟨rfl, rfl⟩
    · cases h
  | cons kv kvs ih =>
    intro es r
    rcases r.elim with ⟨h, _⟩ | ⟨k', v, d, kvs', es', h, rfl, a, b⟩
    · cases h
    · cases h
      by_cases e : k' = k
      · subst e
        exact .inr ⟨v, d, by simp [Z.look], by simp [valV], a⟩
      · rcases ih b with ⟨h1, h2⟩ | ⟨v', d', h1, h2, h3⟩
        · exact .inl ⟨by simpa [Z.look, e] using h1, by simpa [valV, e] using h2⟩
        · exact .inr ⟨v', d', by simpa [Z.look, e] using h1, by simpa [valV, e] using h2, h3⟩
theorem RKV.app {kvs kvs' : List (κ × V)} {es es' : List (κ × D)} (a : RKV K F ι kvs es) (b : RKV K F ι kvs' es') : RKV K F ι (kvs ++ kvs') (es ++ es') :=
  ⟨by rw [List.map_append, List.map_append, a.1, b.1], by rw [List.map_append, List.map_append]; exact a.2.app b.2⟩
theorem RKV.map (k : κ) {v : V} {d : D} (q : Rep K F ι v d) : ∀ {kvs : List (κ × V)} {es : List (κ × D)}, RKV K F ι kvs es →
    RKV K F ι (kvs.map fun e => if e.1 = k then (e.1, v) else e) (es.map fun e => if e.1 = k then (e.1, d) else e) := by
  intro kvs
  induction kvs with
  | nil =>
    intro es r
    rcases r.elim with ⟨_, rfl⟩ | ⟨_, _, _, _, _, h, _⟩
    · exact .nil
    · cases h
  | cons kv kvs ih =>
    intro es r
    rcases r.elim with ⟨h, _⟩ | ⟨k', w, e, kvs', es', h, rfl, a, b⟩
    · cases h
    · cases h
      rw [List.map_cons, List.map_cons]
      by_cases hk : k' = k
      · rw [if_pos hk, if_pos hk]; exact .cons q (ih b)
      · rw [if_neg hk, if_neg hk]; exact .cons a (ih b)
theorem RKV.put (k : κ) {v : V} {d : D} (q : Rep K F ι v d) {kvs : List (κ × V)} {es : List (κ × D)} (r : RKV K F ι kvs es) : RKV K F ι (putK kvs k v) (dput es k d) := by
  unfold putK dput
  rw [valV_any]
  rcases r.look k with ⟨h1, h2⟩ | ⟨_, _, h1, h2, _⟩
  · rw [h1, h2]
    exact r.app (.cons q .nil)
  · rw [h1, h2]
    exact r.map k q
theorem RKV.drop (k : κ) : ∀ {kvs : List (κ × V)} {es : List (κ × D)}, RKV K F ι kvs es → RKV K F ι (dropK kvs k) (ddrop es k) := by
  intro kvs
  induction kvs with
  | nil =>
    intro es r
    rcases r.elim with ⟨_, rfl⟩ | ⟨_, _, _, _, _, h, _⟩
    · exact .nil
    · cases h
  | cons kv kvs ih =>
    intro es r
    rcases r.elim with ⟨h, _⟩ | ⟨k', w, e, kvs', es', h, rfl, a, b⟩
    · cases h
    · cases h
      have := ih b
      unfold dropK ddrop at this ⊢
      by_cases hk : k' = k
      · rw [List.filter_cons_of_neg (by simp [hk]), List.filter_cons_of_neg (by simp [hk])]; exact this
      · rw [List.filter_cons_of_pos (by simp [hk]), List.filter_cons_of_pos (by simp [hk])]; exact .cons a this
theorem RKV.le {F' : Hp} {ι' : List Addr} (h : LeH F F') (g : LeA ι ι') {kvs : List (κ × V)} {es : List (κ × D)} (r : RKV K F ι kvs es) : RKV K F' ι' kvs es := ⟨r.1, r.2.le h g⟩
end
theorem keyK_rep {K : PySem.W.Frag} {F : Hp} {ι : List Addr} {v : V} {d : D} {k : Key} (r : Rep K F ι v d) (e : keyK d = some k) : v = kV k := by
  cases r <;> simp [keyK] at e <;> subst e <;> rfl
theorem keyKs_rep {K : PySem.W.Frag} {F : Hp} {ι : List Addr} : ∀ {ds : List D} {vs : List V} {ks : List Key}, Reps K F ι vs ds → keyKs ds = some ks → vs = ks.map kV
  | [], _, ks, r, e => by cases r; simp [keyKs] at e; subst e; rfl
  | d :: ds, _, ks, r, e => by
    cases r with
    | cons a b =>
      simp only [keyKs] at e
      split at e
      · rename_i k ks' h1 h2
        cases e
        rw [List.map_cons, keyK_rep a h1, keyKs_rep b h2]
      · cases e
section
variable {p : Pg} {X : Cx} {F H : Hp} {ι : List Addr} {x y v : V} {u k d : D}
theorem keyK_cv {ks : Key} (r : CV p F ι H v k) (e : keyK k = some ks) : v = kV ks := by
  cases k <;> simp [keyK] at e <;> subst e <;> exact r
theorem keyT_eq {d : D} {ks : List Key} (e : keyT d = some ks) : ∃ ds, d = .tup ds ∧ keyKs ds = some ks ∧ ks.map kV ∉ badVs := by
  cases d <;> try cases e
  rename_i ds
  obtain ⟨ks', h1, h2⟩ := Option.bind_eq_some_iff.mp e
  split at h2
  · cases h2
  · rename_i hn
    cases h2
    refine ⟨ds, rfl, h1, fun hm => hn ?_⟩
    unfold badVs at hm
    obtain ⟨b, hb, he⟩ := List.mem_map.mp hm
    exact List.any_eq_true.mpr ⟨b, hb, decide_eq_true (kVs_inj he)⟩
theorem keyT_cv {ks : List Key} (r : CV p F ι H v k) (e : keyT k = some ks) : ∃ b, v = .ref b ∧ H b = some (.tup (ks.map kV)) := by
  obtain ⟨ds, rfl, h1, h2⟩ := keyT_eq e
  obtain ⟨a, vs, rfl, q1, q2⟩ := r
  have hv := keyKs_rep q2 h1
  subst hv
  exact ⟨a, rfl, q1.2.resolve_right h2⟩
theorem dget_ok (cx : CV p F ι H x u) (ry : CV p F ι H y k) {o : Option D} (e : dget u k = some o) : ∃ a o', x = .ref a ∧ DGet H a y o' ∧ IsD H a ∧ ((o = none ∧ o' = none) ∨ ∃ d v, o = some d ∧ o' = some v ∧ Rep p.K F ι v d) := by
  unfold dget at e
  split at e
  · rename_i es
    obtain ⟨key, h1, h2⟩ := Option.map_eq_some_iff.mp e
    obtain ⟨a, kvs, rfl, q1, q2, q3⟩ := cx
    refine ⟨a, valV kvs key, rfl, .inl ⟨kvs, key, q1, keyK_cv ry h1, rfl⟩, .inl ⟨_, q1⟩, ?_⟩
    rcases (show RKV p.K F ι kvs es from ⟨q2, q3⟩).look key with ⟨h3, h4⟩ | ⟨w, d, h3, h4, h5⟩
    · exact .inl ⟨by rw [← h2]; exact h3, h4⟩
    · exact .inr ⟨d, w, by rw [← h2]; exact h3, h4, h5⟩
  · rename_i es
    obtain ⟨key, h1, h2⟩ := Option.map_eq_some_iff.mp e
    obtain ⟨a, kvs, rfl, q1, q2, q3⟩ := cx
    obtain ⟨b, rfl, hb⟩ := keyT_cv ry h1
    refine ⟨a, valV kvs key, rfl, .inr ⟨kvs, key, b, q1, rfl, hb, rfl⟩, .inr ⟨_, q1⟩, ?_⟩
    rcases (show RKV p.K F ι kvs es from ⟨q2, q3⟩).look key with ⟨h3, h4⟩ | ⟨w, d, h3, h4, h5⟩
    · exact .inl ⟨by rw [← h2]; exact h3, h4⟩
    · exact .inr ⟨d, w, by rw [← h2]; exact h3, h4, h5⟩
  · cases e

theorem isNon_py {d : D} (h : d.isNon = false) (hf : d.plain = true) : d.py ≠ .none := by
  cases d <;> simp_all [D.isNon, D.py, D.plain]
theorem dep_fit {d : D} (h : d.fit = true) : d.py.depth ≤ 60 := by
  unfold D.fit at h
  simp only [Bool.and_eq_true, decide_eq_true_eq] at h
  exact h.2
theorem any_py (a : D) : ∀ bs : List D, ((pys bs).any fun b => PyData.eqv b a.py) = bs.any fun b => eqD b a
  | [] => by rw [pys]; rfl
  | b :: bs => by rw [pys, List.any_cons, List.any_cons, any_py a bs]; rfl
theorem in_room {X : Cx} {n : Nat} {a : D} {bs : List D} (hu : X.A.units + 64 < cLine) (ha : a.fit = true) : X.A.units + 1 + min n a.py.depth < cLine := by
  have h1 := dep_fit ha
  have h2 : min n a.py.depth ≤ a.py.depth := Nat.min_le_right _ _
  omega
theorem fits_lay {bs : List D} (h : fits bs = true) : PyData.canLayAll0 (pys bs) = true := lays_plain bs (by have := fit_plain h; rwa [D.plain] at this)
theorem cmp_ok (o : CmpOp) (hp : X.pg p.cls p.con = p) (hu : X.A.units + 64 < cLine) (S : ∀ a o, F a = some o → SubH H a o) (cx : CV p F ι H x u) (cy : CV p F ι H y k) {c : Bool} (e : cmpD o u k = some c) {Q : VK} (q : Q (.bl c) H) : wR X (compareOp o) x y H Q := by
  have hK : X.K = p.K := by rw [← hp]; rfl
  intro pins s σ vx vy I rx ry
  have rd : ∀ {d : D} {z : V} {w : Value}, CV p F ι H z d → d.plain = true → RelV z w → ∃ as, Reads s.heap w d.py as := fun cz hz rz => Dp.reads I _ _ _ (by rw [hK]; exact cz.dp S hz) rz
  have fin : EP X pins σ Q (.bool c) s := ⟨.bl c, H, I, rfl, q⟩
  have hu1 : X.A.units + 1 < cLine := by omega
  unfold cmpD at e
  split at e
  · split at e
    · rename_i h; cases e
      unfold okEq at h; rw [Bool.and_eq_true] at h
      obtain ⟨as, r1⟩ := rd cx (fit_plain h.1) rx
      obtain ⟨bs, r2⟩ := rd cy (fit_plain h.2) ry
      exact SeqAt.compareEq_shaped r1 r2 (shaped_of h.1) (shaped_of h.2) hu fin
    · cases e
  · split at e
    · rename_i h; cases e
      unfold okEq at h; rw [Bool.and_eq_true] at h
      obtain ⟨as, r1⟩ := rd cx (fit_plain h.1) rx
      obtain ⟨bs, r2⟩ := rd cy (fit_plain h.2) ry
      exact SeqAt.compareNe_shaped r1 r2 (shaped_of h.1) (shaped_of h.2) hu fin
    · cases e
  all_goals first
    | (split at e
       · rename_i h; cases e
         unfold okLt at h; simp only [Bool.and_eq_true, Bool.not_eq_true'] at h
         obtain ⟨h1, h2, h3, h4⟩ := h
         obtain ⟨as, r1⟩ := rd cx (fit_plain h1) rx
         obtain ⟨bs, r2⟩ := rd cy (fit_plain h2) ry
         have room : X.A.units + min u.py.depth k.py.depth < cLine := by
           have g1 := dep_fit h1
           have g2 : min u.py.depth k.py.depth ≤ u.py.depth := Nat.min_le_left _ _
           omega
         first
           | exact PySem.W.lt_data r1 r2 h3 (isNon_py h4 (fit_plain h1)) room fin
           | exact PySem.W.gt_data r1 r2 h3 (isNon_py h4 (fit_plain h1)) room fin
           | exact PySem.W.le_data r1 r2 h3 (isNon_py h4 (fit_plain h1)) room fin
           | exact PySem.W.ge_data r1 r2 h3 (isNon_py h4 (fit_plain h1)) room fin
       · cases e)
    | (split at e
       · rename_i h; cases e
         rw [Bool.and_eq_true] at h
         obtain ⟨as, r1⟩ := rd cx (fit_plain h.1) rx
         obtain ⟨bs, r2⟩ := rd cy (by first | exact fit_plain h.2 | (have g := fit_plain h.2; rw [D.plain] at g; rw [D.plain]; exact g)) ry
         rw [D.py] at r2
         rw [← any_py] at fin
         first
           | exact SeqAt.in_list_reads r2 r1 (fits_lay h.2) (lay_plain _ (fit_plain h.1)) (in_room (bs := []) hu h.1) fin
           | exact SeqAt.notIn_list_reads r2 r1 (fits_lay h.2) (lay_plain _ (fit_plain h.1)) (in_room (bs := []) hu h.1) fin
           | exact SeqAt.in_tuple_reads r2 r1 (fits_lay h.2) (lay_plain _ (fit_plain h.1)) (in_room (bs := []) hu h.1) fin
           | exact SeqAt.notIn_tuple_reads r2 r1 (fits_lay h.2) (lay_plain _ (fit_plain h.1)) (in_room (bs := []) hu h.1) fin
       · cases e)
    | (obtain ⟨r, h1, rfl⟩ := Option.map_eq_some_iff.mp e
       obtain ⟨a, o', rfl, g, _, hh⟩ := dget_ok cy cx h1
       cases (show vy = .ref a from ry)
       have hs : o'.isSome = r.isSome := by rcases hh with ⟨rfl, rfl⟩ | ⟨_, _, rfl, rfl, _⟩ <;> rfl
       rw [← hs] at q
       first
         | exact d_in hu1 I g rx fun s' I' => ⟨.bl _, H, I', rfl, q⟩
         | exact d_notIn hu1 I g rx fun s' I' => ⟨.bl _, H, I', rfl, q⟩)
    | skip
  · cases cx; cases cy; cases e
    exact op_in_str pins s σ H _ _ vx vy Q I rx ry ⟨_, _, rfl, rfl, q⟩
  · cases cx; cases cy; cases e
    exact op_notin_str pins s σ H _ _ vx vy Q I rx ry ⟨_, _, rfl, rfl, q⟩
  · cases e

theorem cutL_len {α : Type} (xs : List α) (lo hi : Option Int) : (cutL xs lo hi).length ≤ xs.length := by
  unfold cutL; rw [List.length_take, List.length_drop]; omega
theorem Reps.cut {K : PySem.W.Frag} {vs : List V} {ds : List D} (r : Reps K F ι vs ds) (lo hi : Option Int) : Reps K F ι (cutV vs lo hi) (cutL ds lo hi) := by
  unfold cutV cutL
  rw [r.length]
  exact (r.drop _).take _
theorem atI_rep {K : PySem.W.Frag} {vs : List V} {ds : List D} (r : Reps K F ι vs ds) {i : Int} {d : D} (e : atI ds i = some d) : ∃ z, atI vs i = some z ∧ Rep K F ι z d := by
  unfold atI at e ⊢
  rw [r.length]
  obtain ⟨j, h1, h2⟩ := Option.bind_eq_some_iff.mp e
  obtain ⟨z, h3, h4⟩ := r.at h2
  exact ⟨z, by rw [h1]; exact h3, h4⟩
/-- a[b], by values -/
def wIx (X : Cx) (b : Expr) : R2 := fun x y H Q => ∀ (a : Expr) pins s σ v u, Inv X pins σ H s → RelV x v → RelV y u → wpAny (model X.prog X.w) X.A (subscriptTail a b v u) (EP X pins σ Q) X.xe s
theorem pe_wIx {X : Cx} {a b : Expr} {ta tb : TE} {pos : Pos} (ha : PE X a ta) (hb : PE X b tb) : PE X (.Subscript a b pos) (tOp (wIx X b) ta tb) := by
  refine ⟨fun pins s σ H Q I h => ?_⟩
  exact Subscript_ (binT ha hb I h fun v u s2 x y H2 I2 rx ry q => q a pins s2 σ v u I2 rx ry)
theorem idx_ok (hp : X.pg p.cls p.con = p) (hu : X.A.units + 64 < cLine) {b : Expr} (hb : PlainIx b) (S : ∀ a o, F a = some o → SubH H a o) (cx : CV p F ι H x u) (cy : Rep p.K F ι y k) (e : idxD u k = some d) {Q : VK} (q : ∀ z, Rep p.K F ι z d → Q z H) : wIx X b x y H Q := by
  have hK : X.K = p.K := by rw [← hp]; rfl
  have hu1 : X.A.units + 1 < cLine := by omega
  have dict : ∀ {o : Option D}, dget u k = some o → o = some d → wIx X b x y H Q := by
    intro o h1 h2 a pins s σ v w I rx ry
    have hk : ∀ n, k ≠ .ref n := by
      intro n hn
      subst hn
      cases u <;> simp [dget, keyK, keyT] at h1
    obtain ⟨a', o', rfl, g, dd, hh⟩ := dget_ok cx (CV.of_rep S cy hk) h1
    rcases hh with ⟨h3, _⟩ | ⟨d', z, h3, rfl, h4⟩
    · rw [h2] at h3; cases h3
    · rw [h2] at h3; cases h3
      cases (show v = .ref a' from rx)
      obtain ⟨t1, t2, _⟩ := isD_at I dd
      exact tail_any t1 PySem.F.slot_dict_getitem.lookup (d_getItem hu1 I g ry fun w' s' I' rw' => ⟨z, H, I', rw', q z h4⟩) (hb _ _)
  unfold idxD at e
  split at e
  · cases cy
    obtain ⟨a, vs, rfl, q1, q2⟩ := cx
    obtain ⟨z, h1, h2⟩ := atI_rep q2 e
    intro a' pins s σ v w I rx ry
    exact ix_list a' b pins s σ H _ _ v w Q I rx ry ⟨a, vs, _, z, rfl, rfl, by rw [hK]; exact q1, h1, q z h2⟩ (hb _ _)
  · cases cy
    obtain ⟨a, vs, rfl, q1, q2⟩ := cx
    obtain ⟨z, h1, h2⟩ := atI_rep q2 e
    intro a' pins s σ v w I rx ry
    exact ix_tup a' b pins s σ H _ _ v w Q I rx ry ⟨a, vs, _, z, rfl, rfl, q1.sq, h1, q z h2⟩ (hb _ _)
  · split at e
    · rename_i hz
      cases cy
      cases cx
      obtain ⟨c, h1, rfl⟩ := Option.map_eq_some_iff.mp e
      intro a' pins s σ v w I rx ry
      exact ix_str a' b pins s σ H _ _ v w Q I rx ry ⟨_, _, c, rfl, rfl, hz, h1, q _ (.str _)⟩ (hb _ _)
    · cases e
  · obtain ⟨o, h1, h2⟩ := Option.join_eq_some_iff.mp e |> fun h => (⟨_, h, rfl⟩ : ∃ o, dget _ k = some o ∧ o = some d)
    exact dict h1 h2
  · obtain ⟨o, h1, h2⟩ := Option.join_eq_some_iff.mp e |> fun h => (⟨_, h, rfl⟩ : ∃ o, dget _ k = some o ∧ o = some d)
    exact dict h1 h2
  · cases e
/-- a[lo:hi], by values -/
theorem sl_ok (hp : X.pg p.cls p.con = p) (S : ∀ a o, F a = some o → SubH H a o) (cx : CV p F ι H x u) (fx : Rep p.K F ι x u ∨ ∀ ds, u ≠ .tup ds) {lo hi : Option Int} (e : slD u lo hi = some d) {Q : VK} (k : ∀ z F' H', Grow F H F' H' → Rep p.K F' ι z d → Q z H') :
    rSlL X.K x lo hi H Q ∨ rSlA X.K x lo hi H Q ∨ rSlS x lo hi H Q := by
  have hK : X.K = p.K := by rw [← hp]; rfl
  unfold slD at e
  split at e
  · cases e
    obtain ⟨a, vs, rfl, q1, q2⟩ := cx
    exact .inl ⟨a, vs, rfl, by rw [hK]; exact q1, fun c hc => newL S (q2.cut lo hi) hc k⟩
  · cases e
    obtain ⟨a, vs, rfl, q1, q2⟩ := cx
    refine .inr (.inl ⟨a, vs, rfl, q1.sq, fun hw => ?_, fun _ c hc => newT S (q2.cut lo hi) hc k⟩)
    rename_i xs
    have e2 : cutL xs lo hi = xs := by
      unfold cutL
      rw [← q2.length, hw.1, hw.2, List.drop_zero, Nat.sub_zero, q2.length, List.take_length]
    rw [e2] at k
    exact k _ _ _ .refl (fx.resolve_right fun q => q _ rfl)
  · split at e
    · rename_i hz
      cases e
      cases cx
      exact .inr (.inr ⟨_, rfl, hz, k _ _ _ .refl (.str _)⟩)
    · cases e
  · cases e
end
end Z

set_option Elab.async false
set_option linter.all false
set_option maxRecDepth 100000
set_option maxHeartbeats 4000000
namespace Z
open PySem PySem.Spec PyProof.Rows L2
/-! # repr of data with dicts -/
theorem pyrk_fst : ∀ es : List (Key × D), (pyrk es).map (·.1) = (es.map (·.1)).map keyP
  | [] => by rw [pyrk]; rfl
  | (k, d) :: r => by rw [pyrk, pyrp, List.map_cons, List.map_cons, List.map_cons, pyrk_fst r]
theorem pyrk_snd : ∀ es : List (Key × D), (pyrk es).map (·.2) = pyrs (es.map (·.2))
  | [] => by rw [pyrk]; simp [pyrs]
  | (k, d) :: r => by rw [pyrk, pyrp, List.map_cons, List.map_cons, pyrs, pyrk_snd r]
theorem shwk_snd : ∀ es : List (Key × D), shwk es = shws (es.map (·.2))
  | [] => by rw [shwk]; simp [shws]
  | (k, d) :: r => by rw [shwk, shwp, List.map_cons, shws, shwk_snd r]
theorem keyP_noDict : ∀ ks : List Key, PyData.hasDictAll (ks.map keyP) = false
  | [] => by simp [PyData.hasDictAll]
  | .inl i :: r => by simp [PyData.hasDictAll, keyP, PyData.hasDict, keyP_noDict r]
  | .inr x :: r => by simp [PyData.hasDictAll, keyP, PyData.hasDict, keyP_noDict r]
section
variable {P : Program} {w : World} {h : Heap}
theorem pairs_keys {knd : KeyKind P w Key} (hk : knd = mixKind P w) : ∀ {es : List DictEntry} {vs : List (Key × Value)}, Pairs knd es vs → ReadsAll h (es.map (·.key)) ((vs.map (·.1)).map keyP) [] := by
  intro es vs r
  subst hk
  induction r with
  | nil => exact .nil
  | @cons e kv es kvs h1 h2 _ ih =>
    have h1 : keyIs kv.1 e.key = true := h1
    rcases keyIs_shape h1 with ⟨i, t, e1, e2⟩ | ⟨x, t, e1, e2⟩
    · rw [List.map_cons, List.map_cons, List.map_cons, e1, e2]
      exact .cons (as := []) (bs := []) (.int i t) ih
    · rw [List.map_cons, List.map_cons, List.map_cons, e1, e2]
      exact .cons (as := []) (bs := []) (.str x t) ih
theorem pairs_vals {knd : KeyKind P w Key} : ∀ {es : List DictEntry} {vs : List (Key × Value)}, Pairs knd es vs → es.map (·.val) = vs.map (·.2) := by
  intro es vs r
  induction r with
  | nil => rfl
  | cons h1 h2 _ ih => rw [List.map_cons, List.map_cons, h2, ih]
end
section
variable {p : Pg} {X : Cx} {pins : List (Addr × Obj)} {σ : L2.St} {H F : Hp} {ι : List Addr} {s : Shared}
def Shown (P : Program) (w : World) (h : Heap) (u : Value) (d : PyData) : Prop := ∃ as bs, Reads h u d as ∧ ReadAtMost h d.depth bs ∧ ReprK P w bs h d.depth u d.shown
def ShownAll (P : Program) (w : World) (h : Heap) (us : List Value) (ds : List PyData) : Prop := ∃ as bs, ReadsAll h us ds as ∧ ReadAtMost h (PyData.depthAll ds) bs ∧ ReprAllK P w bs h (PyData.depthAll ds) us (PyData.shownAll ds)
theorem shown_lst {P : Program} {w : World} {h : Heap} {a : Addr} {its : List Value} {ds : List PyData} {o : Obj} {n : Nat} (h1 : h.get? a = some o) (h2 : o.cls = .type "list") (h3 : o.data = .seq its.toArray n) (r : ShownAll P w h its ds) : Shown P w h (.ref a) (.list ds) := by
  obtain ⟨as, bs, r1, hb, hk⟩ := r
  have r : Reads h (.ref a) (.list ds) _ := .list h1 h2 h3 r1
  have hna : a ∉ bs := not_mem_of_deeper r (by simp only [PyData.depth]; omega) hb
  refine ⟨_, a :: bs, r, ReadAtMost.cons r (by simp only [PyData.depth]; omega) hb, ?_⟩
  simp only [PyData.depth, PyData.shown]
  cases its with
  | nil =>
    have h4' : ReadsAll h [] ds _ := r1
    cases h4'
    simp only [PyData.shownAll, listText_nil]
    exact ReprK.listEmpty h1 h2 h3
  | cons x l => exact ReprK.list h1 h2 h3 hna (by simpa using hk.length_eq) (fun i y e => hk.item i y (by simpa using e))
theorem shown_tup {P : Program} {w : World} {h : Heap} {a : Addr} {its : List Value} {ds : List PyData} {o : Obj} {n : Nat} (h1 : h.get? a = some o) (h2 : o.cls = .type "tuple") (h3 : o.data = .seq its.toArray n) (r : ShownAll P w h its ds) : Shown P w h (.ref a) (.tuple ds) := by
  obtain ⟨as, bs, r1, hb, hk⟩ := r
  have r : Reads h (.ref a) (.tuple ds) _ := .tuple h1 h2 h3 r1
  have hna : a ∉ bs := not_mem_of_deeper r (by simp only [PyData.depth]; omega) hb
  refine ⟨_, a :: bs, r, ReadAtMost.cons r (by simp only [PyData.depth]; omega) hb, ?_⟩
  simp only [PyData.depth, PyData.shown]
  exact ReprK.tuple h1 h2 h3 hna hk
theorem shown_dic {P : Program} {w : World} {h : Heap} {a : Addr} {vs : List (Key × Value)} {es : List (Key × D)} (hs : (a == sysModules) = false) (dd : h.DictOf (mixKind P w) a vs) (hk : vs.map (·.1) = es.map (·.1)) (sh : PyData.showableKv (pyrk es) = true)
    (hz : (dictText (PyData.shownKv (pyrk es))).length ≤ sizeLine) (r : ShownAll P w h (vs.map (·.2)) (pyrs (es.map (·.2)))) : Shown P w h (.ref a) (.dict (pyrk es)) := by
  obtain ⟨as, b2, r1, hb2, k2⟩ := r
  obtain ⟨o, en, ep, h1, h2, h3, _, h5, _⟩ := dd
  have rk : ReadsAll h (en.toList.map (·.key)) ((pyrk es).map (·.1)) [] := by rw [pyrk_fst, ← hk]; exact pairs_keys rfl h5
  have rv : ReadsAll h (en.toList.map (·.val)) ((pyrk es).map (·.2)) as := by rw [pyrk_snd, pairs_vals h5]; exact r1
  have r : Reads h (.ref a) (.dict (pyrk es)) _ := .dict h1 h2.1 h3 rk rv
  obtain ⟨hs1, hs2⟩ := PyData.showableKv_split _ sh
  obtain ⟨b1, hb1, k1⟩ := ReprAllK.of_readsAll (prog := P) (w := w) rk hs1 (fun hx => by rw [pyrk_fst, keyP_noDict] at hx; cases hx) (fun t ht => let ⟨q, hq, hl⟩ := PyData.shownKv_key_le _ t ht; Nat.le_trans hl (Nat.le_trans (dictText_mem_le hq) hz))
  have e2 : PyData.depthAll (pyrs (es.map (·.2))) ≤ PyData.depthKv (pyrk es) := by rw [← pyrk_snd]; exact PyData.depthAll_vals_le _
  have hb : ReadAtMost h (PyData.depthKv (pyrk es)) (b1 ++ b2) := (hb1.mono (PyData.depthAll_keys_le _)).append (hb2.mono e2)
  have hna : a ∉ b1 ++ b2 := not_mem_of_deeper r (by simp only [PyData.depth]; omega) hb
  refine ⟨_, a :: (b1 ++ b2), r, ReadAtMost.cons r (by simp only [PyData.depth]; omega) hb, ?_⟩
  simp only [PyData.depth, PyData.shown, PyData.shownKv_eq]
  rw [← pairs_vals h5, ← pyrk_snd] at k2
  exact ReprK.dict h1 h2.1 h3 hs hna (ReprEntriesK.of_two en.toList _ _
    (k1.more_le (fun b hb => List.mem_append_left _ hb) (PyData.depthAll_keys_le _)) (k2.more_le (fun b hb => List.mem_append_right _ hb) (PyData.depthAll_vals_le _)))
theorem shown_nil {P : Program} {w : World} {h : Heap} : ShownAll P w h [] [] := ⟨[], [], .nil, (fun _ h => nomatch h), by simp only [PyData.shownAll]; exact .nil⟩
theorem shown_cons {P : Program} {w : World} {h : Heap} {u : Value} {us : List Value} {d : PyData} {ds : List PyData} (a : Shown P w h u d) (b : ShownAll P w h us ds) : ShownAll P w h (u :: us) (d :: ds) := by
  obtain ⟨a1, b1, r1, hb1, k1⟩ := a
  obtain ⟨a2, b2, r2, hb2, k2⟩ := b
  refine ⟨a1 ++ a2, b1 ++ b2, .cons r1 r2, ?_, ?_⟩
  · simp only [PyData.depthAll]
    exact (hb1.mono (Nat.le_max_left _ _)).append (hb2.mono (Nat.le_max_right _ _))
  · simp only [PyData.depthAll, PyData.shownAll]
    exact .cons ((k1.more fun b hb => List.mem_append_left _ hb).level_le (Nat.le_max_left _ _)) (k2.more_le (fun b hb => List.mem_append_right _ hb) (Nat.le_max_right _ _))
theorem shown_flat {P : Program} {w : World} {h : Heap} {u : Value} {d : PyData} (r : Reads h u d []) (hs : d.showable = true) (hd : d.hasDict = false) (hz : d.shown.length ≤ sizeLine) : Shown P w h u d := by
  obtain ⟨bs, h1, h2⟩ := ReprK.of_reads (prog := P) (w := w) r hs (fun z => by rw [hd] at z; cases z) hz
  exact ⟨_, bs, r, h1, h2⟩
theorem kv_vals {kvs : List (Key × V)} {vs : List (Key × Value)} (r : KV kvs vs) : Vals (kvs.map (·.2)) (vs.map (·.2)) := by
  unfold KV at r
  induction r with
  | nil => exact .nil
  | cons h _ ih => exact .cons h.2 ih
mutual
theorem shown_rep (hK : X.K = p.K) (S : ∀ a o, F a = some o → SubH H a o) (I : Inv X pins σ H s) : ∀ {d : D} {v : V} {u : Value}, Rep p.K F ι v d → RelV v u → d.shw = true → d.pyr.showable = true → d.pyr.shown.length ≤ sizeLine → Shown X.prog X.w s.heap u d.pyr
  | _, _, _, .non, r, _, hs, hz => by
    cases r; rw [D.pyr] at hs hz ⊢; exact shown_flat .none hs rfl hz
  | _, _, _, .bl b, r, _, hs, hz => by
    cases r; rw [D.pyr] at hs hz ⊢; exact shown_flat (.bool b) hs rfl hz
  | _, _, _, .int i, r, _, hs, hz => by
    obtain ⟨t, rfl⟩ := r; rw [D.pyr] at hs hz ⊢; exact shown_flat (.int i t) hs rfl hz
  | _, _, _, .str x, r, _, hs, hz => by
    obtain ⟨t, rfl⟩ := r; rw [D.pyr] at hs hz ⊢; exact shown_flat (.str x t) hs rfl hz
  | _, _, _, .lst a q, r, hw, hs, hz => by
    cases r
    rw [D.pyr] at hs hz ⊢
    rw [D.shw] at hw
    obtain ⟨its, rv, ⟨o, n, ho, hc, _, hd⟩, _⟩ := I.list (show SqL X.K H _ _ by rw [hK]; exact .of (S _ _ a).lst)
    rw [PyData.showable] at hs
    rw [PyData.shown] at hz
    exact shown_lst ho hc hd (shown_reps hK S I q rv hw hs fun t ht => Nat.le_trans (listText_mem_le ht) hz)
  | _, _, _, .tup a q, r, hw, hs, hz => by
    cases r
    rw [D.pyr] at hs hz ⊢
    rw [D.shw] at hw
    obtain ⟨its, rv, ⟨o, ho, hc, n, hd⟩, _⟩ := I.tuple (show SqT X.K H _ _ by rw [hK]; exact (S _ _ a).tup.sq)
    rw [PyData.showable] at hs
    rw [PyData.shown] at hz
    exact shown_tup ho hc hd (shown_reps hK S I q rv hw hs fun t ht => Nat.le_trans (tupleText_mem_le ht) hz)
  | _, _, _, .dK (es := es) a e q, r, hw, hs, hz => by
    cases r
    rw [D.pyr] at hs hz ⊢
    rw [D.shw, shwk_snd] at hw
    obtain ⟨z, lo, vs, rel, dd⟩ := dk_rd I.hok (S _ _ a).rd
    rw [PyData.showable] at hs
    rw [PyData.shown] at hz
    have rv : Vals _ (vs.map (·.2)) := kv_vals rel
    refine shown_dic lo dd (by rw [← rel.keys]; exact e) hs hz (shown_reps hK S I q rv hw ?_ fun t ht => ?_)
    · rw [← pyrk_snd]; exact (PyData.showableKv_split _ hs).2
    · rw [← pyrk_snd] at ht
      obtain ⟨q, hq, hl⟩ := PyData.shownKv_val_le _ t ht
      exact Nat.le_trans hl (Nat.le_trans (dictText_mem_le hq) hz)
  | _, _, _, .dT _ _ _, _, hw, _, _ => by rw [D.shw] at hw; cases hw
  | _, _, _, .ref _, _, hw, _, _ => by rw [D.shw] at hw; cases hw
theorem shown_reps (hK : X.K = p.K) (S : ∀ a o, F a = some o → SubH H a o) (I : Inv X pins σ H s) : ∀ {ds : List D} {vs : List V} {us : List Value}, Reps p.K F ι vs ds → Vals vs us → shws ds = true → PyData.showableAll (pyrs ds) = true → (∀ t ∈ PyData.shownAll (pyrs ds), t.length ≤ sizeLine) → ShownAll X.prog X.w s.heap us (pyrs ds)
  | _, _, _, .nil, r, _, _, _ => by cases r; rw [pyrs]; exact shown_nil
  | _, _, _, .cons a q, r, hw, hs, hz => by
    cases r with
    | cons r1 r2 =>
    rw [pyrs] at hs hz ⊢
    rw [shws, Bool.and_eq_true] at hw
    rw [PyData.showableAll, Bool.and_eq_true] at hs
    exact shown_cons (shown_rep hK S I a r1 hw.1 hs.1 (hz _ (by simp only [PyData.shownAll]; exact List.mem_cons_self ..))) (shown_reps hK S I q r2 hw.2 hs.2 fun t ht => hz t (by simp only [PyData.shownAll]; exact List.mem_cons_of_mem _ ht))
end
end
end Z

set_option Elab.async false
set_option linter.all false
set_option maxRecDepth 100000
set_option maxHeartbeats 4000000
namespace Z
open PySem PySem.Spec PyProof.Rows L2

/-! # max and min of two things -/
section
variable {prog : Program} {w : World} {A : Around} {E : Value → Shared → Prop} {s : Shared} {a b : Value} {da db : PyData} {as bs : List Addr} {Q : Value → Shared → Prop}
theorem two_reads (ra : Reads s.heap a da as) (rb : Reads s.heap b db bs) (o : Obj) : ∃ cs, ReadsAll (s.heap.push o) (#[a, b] : Array Value).toList [da, db] cs :=
  ⟨_, .cons (Reads.keeps (fun _ _ q => Heap.get?_push_of_some _ q) ra) (.cons (Reads.keeps (fun _ _ q => Heap.get?_push_of_some _ q) rb) .nil)⟩
theorem max_pair (hh : A.handled = none) (ra : Reads s.heap a da as) (rb : Reads s.heap b db bs) (ha : PySem.W.AlikeAll [da, db]) (hu : A.units + 1 + PyData.depthAll [da, db] < cLine)
    (h : ∀ h' tk, (∀ c o, s.heap.get? c = some o → h'.get? c = some o) → Q (if PySem.W.dataLt da db then b else a) { s with heap := h', toks := tk }) : wpAny (model prog w) A (call (.builtin "max") [a, b]) Q E s := by
  obtain ⟨cs, hr⟩ := two_reads ra rb { cls := .type "tuple", data := .seq #[a, b] }
  have hT : (s.heap.push { cls := .type "tuple", data := .seq #[a, b] }).IsTuple s.heap.objs.size #[a, b] := ⟨_, Heap.get?_push_size _ rfl, rfl, 0, rfl⟩
  refine call_function_tree F.kind_max F.plain_max F.entry_max (F.args_max2 a b) (wpAny_bind (wpAny_of_eq (show Builtin.Builtins.bindParams "max" ["key", "default"] 0 ⟨[], []⟩ = pure [none, none] from rfl) ?_))
  refine wpAny_bind (wpAny_newObj_type (wpAny_bind (wpAny_mono (Q := fun it s₂ => _) (PySem.W.iter_tupleW (A := A.in1) hh hT fun s₂ e W st hfp hw hk => ?_) (fun it s₂ q => q) fun _ _ q => q)))
  have hn : (toString "max" ++ toString ".loop" : String) = "max.loop" := by decide
  refine wpAny_bind (wpAny_newObj_type ?_)
  rw [hn]
  have hS : s₂.heap.objs.size ∉ [(s.heap.push { cls := .type "tuple", data := .seq #[a, b] }).objs.size, s.heap.objs.size] := fun hm => absurd (hfp _ hm) (Nat.lt_irrefl _)
  have cmp := PySem.W.cmpIn_gt (prog := prog) (w := w) (A := A.in1) (s := { s with heap := s.heap.push { cls := .type "tuple", data := .seq #[a, b] } }) hr ha hu
  refine wpAny_pure ⟨plainId_quiet F.plain_max_loop _, codeAny_max_loop_firstH W _ hw _ cmp s₂.heap.objs.size hS (fresh_in hk) _ (Nat.zero_lt_succ 1) (fun c o q => Heap.get?_push_of_some _ (hk c o q)) (W.frame 0 s₂ _ s₂.toks st (Nat.le_refl _) fun c _ o q => Heap.get?_push_of_some _ q) (Heap.get?_push_size _ rfl) fun v s' hP hm => ?_⟩
  obtain ⟨h', tk, rfl, hk'⟩ := PySem.W.moved_old e rfl (Moved.drop_new (tk := s₂.toks) hm (Nat.le_refl _))
  have old : ∀ c o, s.heap.get? c = some o → h'.get? c = some o := fun c o q => hk' c o (Heap.get?_push_of_some _ q)
  have hv : v = if PySem.W.dataLt da db then b else a := by
    have hP : (#[a, b] : Array Value)[argBest (fun i j => PySem.W.dataLt (([da, db] : List PyData).getD j .none) (([da, db] : List PyData).getD i .none)) 1]? = some v := hP
    by_cases q : PySem.W.dataLt da db = true
    · have e1 : argBest (fun i j => PySem.W.dataLt (([da, db] : List PyData).getD j .none) (([da, db] : List PyData).getD i .none)) 1 = 1 := by simp [argBest, q]
      rw [e1] at hP; rw [if_pos q]; simpa using hP.symm
    · have e1 : argBest (fun i j => PySem.W.dataLt (([da, db] : List PyData).getD j .none) (([da, db] : List PyData).getD i .none)) 1 = 0 := by simp [argBest, q]
      rw [e1] at hP; rw [if_neg q]; simpa using hP.symm
  rw [hv]
  exact h h' tk old
theorem min_pair (hh : A.handled = none) (ra : Reads s.heap a da as) (rb : Reads s.heap b db bs) (ha : PySem.W.AlikeAll [da, db]) (hu : A.units + 1 + PyData.depthAll [da, db] < cLine)
    (h : ∀ h' tk, (∀ c o, s.heap.get? c = some o → h'.get? c = some o) → Q (if PySem.W.dataLt db da then b else a) { s with heap := h', toks := tk }) : wpAny (model prog w) A (call (.builtin "min") [a, b]) Q E s := by
  obtain ⟨cs, hr⟩ := two_reads ra rb { cls := .type "tuple", data := .seq #[a, b] }
  have hT : (s.heap.push { cls := .type "tuple", data := .seq #[a, b] }).IsTuple s.heap.objs.size #[a, b] := ⟨_, Heap.get?_push_size _ rfl, rfl, 0, rfl⟩
  refine call_function_tree F.kind_min F.plain_min F.entry_min (F.args_min2 a b) (wpAny_bind (wpAny_of_eq (show Builtin.Builtins.bindParams "min" ["key", "default"] 0 ⟨[], []⟩ = pure [none, none] from rfl) ?_))
  refine wpAny_bind (wpAny_newObj_type (wpAny_bind (wpAny_mono (Q := fun it s₂ => _) (PySem.W.iter_tupleW (A := A.in1) hh hT fun s₂ e W st hfp hw hk => ?_) (fun it s₂ q => q) fun _ _ q => q)))
  have hn : (toString "min" ++ toString ".loop" : String) = "min.loop" := by decide
  refine wpAny_bind (wpAny_newObj_type ?_)
  rw [hn]
  have hS : s₂.heap.objs.size ∉ [(s.heap.push { cls := .type "tuple", data := .seq #[a, b] }).objs.size, s.heap.objs.size] := fun hm => absurd (hfp _ hm) (Nat.lt_irrefl _)
  have cmp := PySem.W.cmpIn_lt (prog := prog) (w := w) (A := A.in1) (s := { s with heap := s.heap.push { cls := .type "tuple", data := .seq #[a, b] } }) hr ha hu
  refine wpAny_pure ⟨plainId_quiet F.plain_min_loop _, codeAny_min_loop_firstH W _ hw _ cmp s₂.heap.objs.size hS (fresh_in hk) _ (Nat.zero_lt_succ 1) (fun c o q => Heap.get?_push_of_some _ (hk c o q)) (W.frame 0 s₂ _ s₂.toks st (Nat.le_refl _) fun c _ o q => Heap.get?_push_of_some _ q) (Heap.get?_push_size _ rfl) fun v s' hP hm => ?_⟩
  obtain ⟨h', tk, rfl, hk'⟩ := PySem.W.moved_old e rfl (Moved.drop_new (tk := s₂.toks) hm (Nat.le_refl _))
  have old : ∀ c o, s.heap.get? c = some o → h'.get? c = some o := fun c o q => hk' c o (Heap.get?_push_of_some _ q)
  have hv : v = if PySem.W.dataLt db da then b else a := by
    have hP : (#[a, b] : Array Value)[argBest (fun i j => PySem.W.dataLt (([da, db] : List PyData).getD i .none) (([da, db] : List PyData).getD j .none)) 1]? = some v := hP
    by_cases q : PySem.W.dataLt db da = true
    · have e1 : argBest (fun i j => PySem.W.dataLt (([da, db] : List PyData).getD i .none) (([da, db] : List PyData).getD j .none)) 1 = 1 := by simp [argBest, q]
      rw [e1] at hP; rw [if_pos q]; simpa using hP.symm
    · have e1 : argBest (fun i j => PySem.W.dataLt (([da, db] : List PyData).getD i .none) (([da, db] : List PyData).getD j .none)) 1 = 0 := by simp [argBest, q]
      rw [e1] at hP; rw [if_neg q]; simpa using hP.symm
  rw [hv]
  exact h h' tk old
end

/-! # calls of built-in functions -/
def Bi.fn : Bi → Value
  | .abs => .builtin "abs" | .len => .builtin "len" | .max => .builtin "max" | .min => .builtin "min" | .sorted => .builtin "sorted"
  | .list => .type "list" | .tuple => .type "tuple" | .dict => .type "dict" | .str => .type "str" | .int => .type "int" | .ord => .builtin "ord" | .repr => .builtin "repr"
  | .sum => .builtin "sum" | .any => .builtin "any" | .all => .builtin "all" | .bool => .type "bool" | .setLen => .none
def Bi.name : Bi → Str
  | .abs => "abs" | .len => "len" | .max => "max" | .min => "min" | .sorted => "sorted"
  | .list => "list" | .tuple => "tuple" | .dict => "dict" | .str => "str" | .int => "int" | .ord => "ord" | .repr => "repr"
  | .sum => "sum" | .any => "any" | .all => "all" | .bool => "bool" | .setLen => "?"
abbrev CVs (p : Pg) (F : Hp) (ι : List Addr) (H : Hp) : List V → List D → Prop := Paired (CV p F ι H)
def wC (X : Cx) (f : Value) : List V → Hp → VK → Prop := fun vs H Q => ∀ pins s σ us, Inv X pins σ H s → Vals vs us → wpAny (model X.prog X.w) X.A (call f us) (EP X pins σ Q) X.xe s
theorem wC_ok {X : Cx} {f : Value} : CallR X f (wC X f) := fun pins s σ _ vs us _ I r h => h pins s σ us I r
theorem wC_of {X : Cx} {f : Value} {r : List V → Hp → VK → Prop} (h : CallR X f r) {vs : List V} {H : Hp} {Q : VK} (q : r vs H Q) : wC X f vs H Q := fun pins s σ us I rv => h pins s σ H vs us Q I rv q
section
variable {p : Pg} {X : Cx} {F H : Hp} {ι : List Addr} {d : D}
theorem CVs.one {vs : List V} {e : D} (r : CVs p F ι H vs [e]) : ∃ v, vs = [v] ∧ CV p F ι H v e := by
  cases r with
  | cons a b => cases b; exact ⟨_, rfl, a⟩
theorem CVs.two {vs : List V} {e f : D} (r : CVs p F ι H vs [e, f]) : ∃ v w, vs = [v, w] ∧ CV p F ι H v e ∧ CV p F ι H w f := by
  cases r with
  | cons a b => cases b with
    | cons b c => cases c; exact ⟨_, _, rfl, a, b⟩
theorem alikeAll_of {ds : List D} (h : okAll ds = true) : PySem.W.AlikeAll (pys ds) ∧ plains ds = true ∧ PyData.depthAll (pys ds) ≤ 60 := by
  unfold okAll fits at h
  simp only [Bool.and_eq_true, List.all_eq_true, Bool.not_eq_true'] at h
  obtain ⟨h1, h2, h3⟩ := h
  have hp : plains ds = true := by have := fit_plain h1; rwa [D.plain] at this
  refine ⟨⟨fun x hx y hy => ?_, fun x hx => ?_⟩, hp, ?_⟩
  · rw [pys_map] at hx hy
    obtain ⟨a, ha, rfl⟩ := List.mem_map.mp hx
    obtain ⟨b, hb, rfl⟩ := List.mem_map.mp hy
    exact h2 a ha b hb
  · rw [pys_map] at hx
    obtain ⟨a, ha, rfl⟩ := List.mem_map.mp hx
    exact isNon_py (h3 a ha) (plains_mem hp a ha)
  · have := dep_fit h1
    rw [D.py, PyData.depth] at this
    omega
theorem plain_maxD : ∀ (xs : List D) (x : D), (∀ d ∈ x :: xs, d.plain = true) → (maxD x xs).plain = true ∧ (maxD x xs).py = PySem.W.maxD x.py (pys xs) ∧ maxD x xs ∈ x :: xs := by
  intro xs
  induction xs with
  | nil => intro x h; exact ⟨h x (by simp), by rw [pys]; rfl, by simp [maxD]⟩
  | cons y ys ih =>
    intro x h
    have e1 : maxD x (y :: ys) = maxD (if ltD x y then y else x) ys := rfl
    have e2 : PySem.W.maxD x.py (pys (y :: ys)) = PySem.W.maxD (if ltD x y then y else x).py (pys ys) := by
      rw [pys]
      show PySem.W.maxD (if PySem.W.dataLt x.py y.py then y.py else x.py) (pys ys) = _
      have : (if ltD x y then y else x).py = if PySem.W.dataLt x.py y.py then y.py else x.py := by
        unfold ltD; split <;> rfl
      rw [this]
    rw [e1, e2]
    have h' : ∀ d ∈ (if ltD x y then y else x) :: ys, d.plain = true := by
      intro d hd
      rcases List.mem_cons.mp hd with rfl | hd
      · split
        · exact h y (by simp)
        · exact h x (by simp)
      · exact h d (by simp [hd])
    obtain ⟨q1, q2, q3⟩ := ih _ h'
    refine ⟨q1, q2, ?_⟩
    rcases List.mem_cons.mp q3 with q | q
    · rw [q]; split <;> simp
    · simp [q]
theorem plain_minD : ∀ (xs : List D) (x : D), (∀ d ∈ x :: xs, d.plain = true) → (minD x xs).plain = true ∧ (minD x xs).py = PySem.W.minD x.py (pys xs) ∧ minD x xs ∈ x :: xs := by
  intro xs
  induction xs with
  | nil => intro x h; exact ⟨h x (by simp), by rw [pys]; rfl, by simp [minD]⟩
  | cons y ys ih =>
    intro x h
    have e1 : minD x (y :: ys) = minD (if ltD y x then y else x) ys := rfl
    have e2 : PySem.W.minD x.py (pys (y :: ys)) = PySem.W.minD (if ltD y x then y else x).py (pys ys) := by
      rw [pys]
      show PySem.W.minD (if PySem.W.dataLt y.py x.py then y.py else x.py) (pys ys) = _
      have : (if ltD y x then y else x).py = if PySem.W.dataLt y.py x.py then y.py else x.py := by
        unfold ltD; split <;> rfl
      rw [this]
    rw [e1, e2]
    have h' : ∀ d ∈ (if ltD y x then y else x) :: ys, d.plain = true := by
      intro d hd
      rcases List.mem_cons.mp hd with rfl | hd
      · split
        · exact h y (by simp)
        · exact h x (by simp)
      · exact h d (by simp [hd])
    obtain ⟨q1, q2, q3⟩ := ih _ h'
    refine ⟨q1, q2, ?_⟩
    rcases List.mem_cons.mp q3 with q | q
    · rw [q]; split <;> simp
    · simp [q]
/-- an item of a list that reads as d, d alike to all: it is d -/
theorem item_is (hp : X.pg p.cls p.con = p) {pins : List (Addr × Obj)} {σ : L2.St} {s : Shared} (I : Inv X pins σ H s) (S : ∀ a o, F a = some o → SubH H a o) {ds : List D} {vs : List V} {us : List Value} (r : Reps p.K F ι vs ds) (rv : Vals vs us) (h : okAll ds = true) {m : D} (hm : m ∈ ds)
    {i : Nat} {u : Value} {h' : Heap} {bs : List Addr} (hu : us[i]? = some u) (rd : Reads h' u m.py bs) (hk : ∀ b o, s.heap.get? b = some o → h'.get? b = some o) : ∃ v, RelV v u ∧ Rep p.K F ι v m := by
  have hK : X.K = p.K := by rw [← hp]; rfl
  obtain ⟨al, pl, _⟩ := alikeAll_of h
  have hi : i < us.length := (List.getElem?_eq_some_iff.mp hu).1
  have hi2 : i < vs.length := by rw [rv.length]; exact hi
  obtain ⟨d, hd, rd2⟩ := r.of_at (List.getElem?_eq_getElem hi2)
  obtain ⟨u', hu', ru⟩ := rv.get (List.getElem?_eq_getElem hi2)
  rw [hu] at hu'; cases hu'
  have hdm : d ∈ ds := List.mem_of_getElem? hd
  obtain ⟨cs, q⟩ := Dp.reads I _ _ _ (by rw [hK]; exact dp_of S rd2 (plains_mem pl d hdm)) ru
  have q' := Reads.keeps hk q
  have e := PySem.W.alike_unique d.py m.py u cs bs (al.1 _ (by rw [pys_map]; exact List.mem_map_of_mem hdm) _ (by rw [pys_map]; exact List.mem_map_of_mem hm)) q' rd
  have e2 := py_inj d m (plains_mem pl d hdm) (plains_mem pl m hm) e
  subst e2
  exact ⟨_, ru, rd2⟩
theorem blt_max (hp : X.pg p.cls p.con = p) (hc : X.calm = true) (hr : X.A.units + 64 < cLine) (S : ∀ a o, F a = some o → SubH H a o) {x : D} {xs : List D} {v : V} (cv : CV p F ι H v (.lst (x :: xs))) (ok : okAll (x :: xs) = true) {Q : VK} (k : ∀ z, Rep p.K F ι z (maxD x xs) → Q z H) : wC X (.builtin "max") [v] H Q := by
  have hK : X.K = p.K := by rw [← hp]; rfl
  obtain ⟨a, vs, rfl, q1, q2⟩ := cv
  intro pins s σ us I rv
  rw [Vals.ref1 rv]
  obtain ⟨its, rv2, pl, hz⟩ := I.list (by rw [hK]; exact q1)
  obtain ⟨al, pn, dp⟩ := alikeAll_of ok
  obtain ⟨as, ra⟩ := Dp.readsAll I _ _ its (by rw [hK]; exact dps_of S q2 pn) rv2
  rw [pys] at ra al dp
  obtain ⟨m1, m2, m3⟩ := plain_maxD xs x fun d hd => plains_mem pn d hd
  refine PySem.W.max_list_data (vs := its.toArray) (I.ok.hd hc) pl.isList (by simpa using ra) al (by omega) fun i w h' tk bs hw rd hk => ?_
  rw [← m2] at rd
  obtain ⟨z, z1, z2⟩ := item_is hp I S q2 rv2 ok m3 (by simpa using hw) rd hk
  exact ⟨z, H, I.kept hk, z1, k z z2⟩
theorem blt_min (hp : X.pg p.cls p.con = p) (hc : X.calm = true) (hr : X.A.units + 64 < cLine) (S : ∀ a o, F a = some o → SubH H a o) {x : D} {xs : List D} {v : V} (cv : CV p F ι H v (.lst (x :: xs))) (ok : okAll (x :: xs) = true) {Q : VK} (k : ∀ z, Rep p.K F ι z (minD x xs) → Q z H) : wC X (.builtin "min") [v] H Q := by
  have hK : X.K = p.K := by rw [← hp]; rfl
  obtain ⟨a, vs, rfl, q1, q2⟩ := cv
  intro pins s σ us I rv
  rw [Vals.ref1 rv]
  obtain ⟨its, rv2, pl, hz⟩ := I.list (by rw [hK]; exact q1)
  obtain ⟨al, pn, dp⟩ := alikeAll_of ok
  obtain ⟨as, ra⟩ := Dp.readsAll I _ _ its (by rw [hK]; exact dps_of S q2 pn) rv2
  rw [pys] at ra al dp
  obtain ⟨m1, m2, m3⟩ := plain_minD xs x fun d hd => plains_mem pn d hd
  refine PySem.W.min_list_data (vs := its.toArray) (I.ok.hd hc) pl.isList (by simpa using ra) al (by omega) fun i w h' tk bs hw rd hk => ?_
  rw [← m2] at rd
  obtain ⟨z, z1, z2⟩ := item_is hp I S q2 rv2 ok m3 (by simpa using hw) rd hk
  exact ⟨z, H, I.kept hk, z1, k z z2⟩
theorem two_data (hp : X.pg p.cls p.con = p) {pins : List (Addr × Obj)} {σ : L2.St} {s : Shared} (I : Inv X pins σ H s) (S : ∀ a o, F a = some o → SubH H a o) {a b : D} {v w : V} {u u' : Value} (ok : okAll [a, b] = true) (ca : CV p F ι H v a) (cb : CV p F ι H w b) (ru : RelV v u) (ru' : RelV w u') :
    ∃ as bs, Reads s.heap u a.py as ∧ Reads s.heap u' b.py bs ∧ PySem.W.AlikeAll [a.py, b.py] ∧ PyData.depthAll [a.py, b.py] ≤ 60 := by
  have hK : X.K = p.K := by rw [← hp]; rfl
  obtain ⟨al, pn, dp⟩ := alikeAll_of ok
  rw [pys_map] at al dp
  obtain ⟨as, r1⟩ := Dp.reads I _ _ _ (by rw [hK]; exact ca.dp S (plains_mem pn a (by simp))) ru
  obtain ⟨bs, r2⟩ := Dp.reads I _ _ _ (by rw [hK]; exact cb.dp S (plains_mem pn b (by simp))) ru'
  exact ⟨as, bs, r1, r2, al, dp⟩
theorem blt_max2 (hp : X.pg p.cls p.con = p) (hc : X.calm = true) (hr : X.A.units + 64 < cLine) (S : ∀ a o, F a = some o → SubH H a o) {a b : D} {v w : V} (ca : CV p F ι H v a) (cb : CV p F ι H w b) (ra : Rep p.K F ι v a) (rb : Rep p.K F ι w b) (ok : okAll [a, b] = true) {Q : VK} (k : ∀ z, Rep p.K F ι z (maxD a [b]) → Q z H) : wC X (.builtin "max") [v, w] H Q := by
  intro pins s σ us I rv
  obtain ⟨u, u', rfl, ru, ru'⟩ := vals2 rv
  obtain ⟨as, bs, r1, r2, al, dp⟩ := two_data hp I S ok ca cb ru ru'
  refine max_pair (I.ok.hd hc) r1 r2 al (by omega) fun h' tk hk => ?_
  have e : maxD a [b] = if PySem.W.dataLt a.py b.py then b else a := rfl
  rw [e] at k
  by_cases q : PySem.W.dataLt a.py b.py = true
  · rw [if_pos q] at k ⊢; exact ⟨w, H, I.kept hk, ru', k w rb⟩
  · rw [if_neg q] at k ⊢; exact ⟨v, H, I.kept hk, ru, k v ra⟩
theorem blt_min2 (hp : X.pg p.cls p.con = p) (hc : X.calm = true) (hr : X.A.units + 64 < cLine) (S : ∀ a o, F a = some o → SubH H a o) {a b : D} {v w : V} (ca : CV p F ι H v a) (cb : CV p F ι H w b) (ra : Rep p.K F ι v a) (rb : Rep p.K F ι w b) (ok : okAll [a, b] = true) {Q : VK} (k : ∀ z, Rep p.K F ι z (minD a [b]) → Q z H) : wC X (.builtin "min") [v, w] H Q := by
  intro pins s σ us I rv
  obtain ⟨u, u', rfl, ru, ru'⟩ := vals2 rv
  obtain ⟨as, bs, r1, r2, al, dp⟩ := two_data hp I S ok ca cb ru ru'
  refine min_pair (I.ok.hd hc) r1 r2 al (by omega) fun h' tk hk => ?_
  have e : minD a [b] = if PySem.W.dataLt b.py a.py then b else a := rfl
  rw [e] at k
  by_cases q : PySem.W.dataLt b.py a.py = true
  · rw [if_pos q] at k ⊢; exact ⟨w, H, I.kept hk, ru', k w rb⟩
  · rw [if_neg q] at k ⊢; exact ⟨v, H, I.kept hk, ru, k v ra⟩

theorem EachR : ∀ {vs : List V} {ds : List D} {us : List Value}, Reps p.K F ι vs ds → Vals vs us → PySem.W.EachIs (fun u (b : V × D) => RelV b.1 u) us (vs.zip ds)
  | _, _, _, .nil, .nil => .nil
  | _, _, _, .cons _ r, .cons q t => .cons q (EachR r t)
theorem EachD {h : Heap} : ∀ {vs : List V} {ds : List D} {us : List Value} {as : List Addr}, vs.length = ds.length → ReadsAll h us (pys ds) as → PySem.W.EachIs (fun u (b : V × D) => ∃ as, Reads h u b.2.py as) us (vs.zip ds)
  | [], [], _, _, _, r => by rw [pys] at r; cases r; exact .nil
  | [], _ :: _, _, _, e, _ => by simp at e
  | _ :: _, [], _, _, e, _ => by simp at e
  | v :: vs, d :: ds, _, _, e, r => by
    rw [pys] at r
    cases r with
    | cons a b => exact .cons ⟨_, a⟩ (EachD (by simpa using e) b)
theorem zip_snd {vs : List V} {ds : List D} (e : vs.length = ds.length) : (vs.zip ds).map (·.2) = ds := by
  rw [List.map_snd_zip]; omega
theorem reps_zip : ∀ {vs : List V} {ds : List D}, Reps p.K F ι vs ds → ∀ b ∈ vs.zip ds, Rep p.K F ι b.1 b.2
  | _, _, .nil, b, hb => by simp at hb
  | _, _, .cons a r, b, hb => by
    rw [List.zip_cons_cons] at hb
    rcases List.mem_cons.mp hb with rfl | hb
    · exact a
    · exact reps_zip r b hb
theorem reps_of : ∀ {bs : List (V × D)}, (∀ b ∈ bs, Rep p.K F ι b.1 b.2) → Reps p.K F ι (bs.map (·.1)) (bs.map (·.2))
  | [], _ => .nil
  | b :: bs, h => .cons (h b (by simp)) (reps_of fun c hc => h c (by simp [hc]))
theorem vals_of_each : ∀ {us : List Value} {bs : List (V × D)}, PySem.W.EachIs (fun u (b : V × D) => RelV b.1 u) us bs → Vals (bs.map (·.1)) us
  | _, _, .nil => .nil
  | _, _, .cons a r => .cons a (vals_of_each r)
theorem sortable_of {ds : List D} (h : okSort ds = true) : PySem.W.Sortable (pys ds) := by
  unfold okSort at h
  simp only [Bool.and_eq_true, Bool.or_eq_true, List.all_eq_true] at h
  obtain ⟨h1, _, h2⟩ := h
  obtain ⟨al, pn, _⟩ := alikeAll_of h1
  rw [pys_map]
  rcases h2 with h2 | h2
  · refine .inl fun x hx => ?_
    obtain ⟨a, ha, rfl⟩ := List.mem_map.mp hx
    have := h2 a ha
    split at this
    · rw [D.py, pys]; exact ⟨_, _, rfl⟩
    · cases this
  · refine .inr fun x hx => ?_
    obtain ⟨a, ha, rfl⟩ := List.mem_map.mp hx
    refine ⟨al.2 _ (by rw [pys_map]; exact List.mem_map_of_mem ha), fun xs e => ?_⟩
    have := h2 a ha
    have pa := plains_mem pn a ha
    cases a <;> simp_all [D.py, D.plain]
theorem blt_sorted (hp : X.pg p.cls p.con = p) (hr : X.A.units + 64 < cLine) (S : ∀ a o, F a = some o → SubH H a o) {ds : List D} {v : V} (cv : CV p F ι H v (.lst ds)) (ok : okSort ds = true) {Q : VK} (k : ∀ c ws, H c = none → Reps p.K F ι ws (sortD ds) → Q (.ref c) (upd H c (.lst ws))) : wC X (.builtin "sorted") [v] H Q := by
  have hK : X.K = p.K := by rw [← hp]; rfl
  obtain ⟨a, vs, rfl, q1, q2⟩ := cv
  intro pins s σ us I rv
  rw [Vals.ref1 rv]
  obtain ⟨its, rv2, pl, hz⟩ := I.list (by rw [hK]; exact q1)
  have okA : okAll ds = true := by unfold okSort at ok; rw [Bool.and_eq_true] at ok; exact ok.1
  obtain ⟨al, pn, dp⟩ := alikeAll_of okA
  obtain ⟨as, ra⟩ := Dp.readsAll I _ _ its (by rw [hK]; exact dps_of S q2 pn) rv2
  have hm : (vs.zip ds).map (fun b => b.2.py) = pys ds := by
    rw [pys_map, show (fun b : V × D => b.2.py) = D.py ∘ (·.2) from rfl, ← List.map_map, zip_snd q2.length]
  have hlen : (vs.zip ds).length = vs.length := by rw [List.length_zip, ← q2.length]; omega
  refine PySem.W.sorted_data (bs := vs.zip ds) (enc := fun b => b.2.py) (R := fun u b => RelV b.1 u) pl.isList (EachR q2 rv2) (EachD q2.length ra) (by rw [hm]; exact al.1) (by rw [hm]; exact sortable_of ok) (by rw [hlen]; exact hz) (fun b hb => ?_) fun out ho eo => ?_
  · have h1 : b.2 ∈ ds := by rw [← zip_snd q2.length]; exact List.mem_map_of_mem hb
    have h2 : b.2.py.depth ≤ PyData.depthAll (pys ds) := by
      rw [pys_map]
      have : ∀ l : List D, b.2 ∈ l → b.2.py.depth ≤ PyData.depthAll (l.map D.py) := by
        intro l
        induction l with
        | nil => intro h; cases h
        | cons x l ih =>
          intro h
          rw [List.map_cons, PyData.depthAll]
          rcases List.mem_cons.mp h with e | h
          · rw [e]; exact Nat.le_max_left _ _
          · exact Nat.le_trans (ih h) (Nat.le_max_right _ _)
      exact this ds h1
    omega
  · have hs : ((vs.zip ds).mergeSort (PySem.W.dataLe false fun b : V × D => b.2.py)).map (·.2) = sortD ds := by
      unfold sortD
      rw [PySem.W.sort_maps (s := leD) (f := fun b : V × D => b.2), zip_snd q2.length]
      intro x _ y _
      rw [PySem.W.dataLe_eq]
      rfl
    obtain ⟨e, he⟩ := sortedAll_at s.heap its out.toArray
    have rl : Reps p.K F ι (((vs.zip ds).mergeSort (PySem.W.dataLe false fun b : V × D => b.2.py)).map (·.1)) (sortD ds) := by
      rw [← hs]
      exact reps_of fun b hb => reps_zip q2 b ((List.mergeSort_perm _ _).mem_iff.mp hb)
    have hz2 : (((vs.zip ds).mergeSort (PySem.W.dataLe false fun b : V × D => b.2.py)).map (·.1)).length ≤ sizeLine := by
      rw [List.length_map, List.length_mergeSort, hlen]; exact hz
    refine ⟨.ref (s.heap.objs.size + 1), _, I.laid (a := s.heap.objs.size + 1) (o := .lst _) (t' := s.toks) (fun b o q => sortedAll_old q) (Nat.le_succ _) ⟨hz2, out, e, vals_of_each eo, he⟩, rfl, ?_⟩
    exact k _ _ (I.hok.fresh (Nat.le_succ _)) rl
theorem blt_repr (hp : X.pg p.cls p.con = p) (hr : X.A.units + 64 < cLine) (hg : X.A.guards = some []) (S : ∀ a o, F a = some o → SubH H a o) {v : V} (cv : CV p F ι H v d) (hf : d.fit = true) (hs : d.py.showable = true) (hz : d.py.shown.length ≤ sizeLine) {Q : VK} (k : Q (.str d.py.shown) H) : wC X (.builtin "repr") [v] H Q := by
  have hK : X.K = p.K := by rw [← hp]; rfl
  intro pins s σ us I rv
  obtain ⟨u, rfl, ru⟩ := vals1 rv
  obtain ⟨as, ra⟩ := Dp.reads I _ _ _ (by rw [hK]; exact cv.dp S (fit_plain hf)) ru
  have fin : ∀ (t : Tok) h' tk, (∀ b o, s.heap.get? b = some o → h'.get? b = some o) → EP X pins σ Q (.str d.py.shown t) { s with heap := h', toks := tk } := fun t h' tk hk => ⟨.str _, H, I.kept hk, ⟨t, rfl⟩, k⟩
  have hd := dep_fit hf
  cases d with
  | non => cases (show v = .non from cv); cases ru; rw [D.py, PyData.shown] at fin; exact PySem.P.repr_of_none (fin _ _ _ fun _ _ q => q)
  | bl b => cases (show v = .bl b from cv); cases ru; rw [D.py, PyData.shown] at fin; exact PySem.P.repr_of_bool (fin _ _ _ fun _ _ q => q)
  | int i => cases (show v = .int i from cv); obtain ⟨t, rfl⟩ := ru; rw [D.py, PyData.shown] at fin; rw [D.py, PyData.showable, decide_eq_true_eq] at hs; exact PySem.P.repr_of_int hs (fin _ _ _ fun _ _ q => q)
  | str x => cases (show v = .str x from cv); obtain ⟨t, rfl⟩ := ru; rw [D.py, PyData.shown] at fin hz; exact PySem.P.repr_of_str (fin _ _ _ fun _ _ q => q) hz
  | lst ds =>
    obtain ⟨a, vs, rfl, _⟩ := cv
    cases ru
    exact repr_of_reads' ra hs (fun h => absurd h (by rw [PyData.hasDict_of_canLay _ (lay_plain _ (fit_plain hf))]; decide)) hg (by omega) (fun _ _ q => q) (fun h' u tk hk => fin u h' tk hk) hz
  | tup ds =>
    obtain ⟨a, vs, rfl, _⟩ := cv
    cases ru
    exact repr_of_reads' ra hs (fun h => absurd h (by rw [PyData.hasDict_of_canLay _ (lay_plain _ (fit_plain hf))]; decide)) hg (by omega) (fun _ _ q => q) (fun h' u tk hk => fin u h' tk hk) hz
  | dK _ => exact absurd (fit_plain hf) (by rw [D.plain]; decide)
  | dT _ => exact absurd (fit_plain hf) (by rw [D.plain]; decide)
  | ref _ => exact absurd (fit_plain hf) (by rw [D.plain]; decide)
theorem blt_shw (hp : X.pg p.cls p.con = p) (hr : X.A.units + 64 < cLine) (hg : X.A.guards = some []) (S : ∀ a o, F a = some o → SubH H a o) {v : V} (cv : CV p F ι H v d) (ok : okShw d = true) {Q : VK} (k : Q (.str d.pyr.shown) H) : wC X (.builtin "repr") [v] H Q := by
  have hK : X.K = p.K := by rw [← hp]; rfl
  unfold okShw at ok
  simp only [Bool.and_eq_true, decide_eq_true_eq] at ok
  obtain ⟨h1, h2, h3, h4, h5⟩ := ok
  intro pins s σ us I rv
  obtain ⟨u, rfl, ru⟩ := vals1 rv
  have fin : ∀ (t : Tok) h' tk, (∀ b o, s.heap.get? b = some o → h'.get? b = some o) → EP X pins σ Q (.str d.pyr.shown t) { s with heap := h', toks := tk } := fun t h' tk hk => ⟨.str _, H, I.kept hk, ⟨t, rfl⟩, k⟩
  cases d with
  | lst ds =>
    obtain ⟨a, vs, rfl, q1, q2⟩ := cv
    cases ru
    rw [D.pyr] at h3 h4 h5 fin
    rw [D.shw] at h2
    rw [PyData.showable] at h4
    rw [PyData.shown] at h5 fin
    rw [PyData.depth] at h3
    obtain ⟨its, rv, ⟨o, n, ho, hc, _, hd⟩, _⟩ := I.list (show SqL X.K H _ _ by rw [hK]; exact q1)
    obtain ⟨as, bs, r1, hb, hk⟩ := shown_reps hK S I q2 rv h2 h4 fun t ht => Nat.le_trans (listText_mem_le ht) h5
    have hna : a ∉ bs := not_mem_of_deeper (.list ho hc hd r1) (by simp only [PyData.depth]; omega) hb
    refine call_repr_slot (by omega) ⟨o, ho, hc⟩ PySem.F.slot_list_repr.toG ?_
    cases its with
    | nil =>
      have h4' : ReadsAll s.heap [] (pyrs ds) _ := r1
      cases h : pyrs ds with
      | cons _ _ => rw [h] at h4'; cases h4'
      | nil =>
        rw [h] at fin
        simp only [PyData.shownAll, listText_nil] at fin
        exact call_list_repr_empty ⟨o, ho, hc⟩ ho hd ⟨_, _, rfl, fin _ _ _ fun _ _ e => e⟩
    | cons x l =>
      exact call_list_reprK ho hc hd hna (by simpa using hk.length_eq) (fun i y e => hk.item i y (by simpa using e)) hg (fun b _ => Clear.nil b) (by show X.A.units + 1 + _ < cLine; omega) (fun _ _ e => e) (fun h' u tk hk => ⟨_, _, rfl, fin u h' tk hk⟩) h5
  | tup ds =>
    obtain ⟨a, vs, rfl, q1, q2⟩ := cv
    cases ru
    rw [D.pyr] at h3 h4 h5 fin
    rw [D.shw] at h2
    rw [PyData.showable] at h4
    rw [PyData.shown] at h5 fin
    rw [PyData.depth] at h3
    obtain ⟨its, rv, ⟨o, ho, hc, n, hd⟩, _⟩ := I.tuple (show SqT X.K H _ _ by rw [hK]; exact q1.sq)
    obtain ⟨as, bs, r1, hb, hk⟩ := shown_reps hK S I q2 rv h2 h4 fun t ht => Nat.le_trans (tupleText_mem_le ht) h5
    have hna : a ∉ bs := not_mem_of_deeper (.tuple ho hc hd r1) (by simp only [PyData.depth]; omega) hb
    refine call_repr_slot (by omega) ⟨o, ho, hc⟩ PySem.F.slot_tuple_repr ?_
    exact call_tuple_reprK ho hc hd hna hk hg (fun b _ => Clear.nil b) (by show X.A.units + 1 + _ < cLine; omega) (fun _ _ e => e) (fun h' u tk hk => ⟨_, _, rfl, fin u h' tk hk⟩) h5
  | _ => cases h1
/-! sorted of a dict -/
theorem intKs_ok {β : Type} : ∀ {es : List (Key × β)} {ks : List Int}, intKs es = some ks → es.map (·.1) = ks.map Sum.inl
  | [], ks, h => by cases h; rfl
  | (.inl i, d) :: r, ks, h => by
    obtain ⟨ls, e1, e2⟩ := Option.map_eq_some_iff.mp (show (intKs r).map (i :: ·) = some ks from h)
    subst e2
    rw [List.map_cons, List.map_cons, intKs_ok e1]
  | (.inr x, d) :: r, ks, h => by cases h
theorem strKs_ok {β : Type} : ∀ {es : List (Key × β)} {ks : List Str}, strKs es = some ks → es.map (·.1) = ks.map Sum.inr
  | [], ks, h => by cases h; rfl
  | (.inr i, d) :: r, ks, h => by
    obtain ⟨ls, e1, e2⟩ := Option.map_eq_some_iff.mp (show (strKs r).map (i :: ·) = some ks from h)
    subst e2
    rw [List.map_cons, List.map_cons, strKs_ok e1]
  | (.inl x, d) :: r, ks, h => by cases h
theorem sortI_eq {ys ks : List Int} (h : ys.Perm ks) (s : ys.Pairwise (· ≤ ·)) : ys = sortI ks := by
  have h2 : (sortI ks).Pairwise (fun a b => decide (a ≤ b) = true) := List.pairwise_mergeSort (fun a b c h1 h2 => by simp at *; omega) (fun a b => by simp; omega) ks
  refine List.Perm.eq_of_pairwise (le := fun a b : Int => a ≤ b) (fun a b _ _ h1 h2 => Int.le_antisymm h1 h2) s (h2.imp fun h => of_decide_eq_true h) (h.trans (List.mergeSort_perm _ _).symm)
theorem risingS_pw : ∀ {p : Str} {l : List Str}, risingS p l = true → (p :: l).Pairwise (fun a b => leSt a b = true)
  | p, [], _ => by simp
  | p, x :: r, h => by
    have h : (!ltCps x.cps.toList p.cps.toList && risingS x r) = true := h
    rw [Bool.and_eq_true] at h
    have ih := risingS_pw h.2
    have h1 : leSt p x = true := by unfold leSt; rw [← PyProof.Rows.ltCps_eq]; exact h.1
    refine List.Pairwise.cons (fun y hy => ?_) ih
    rcases List.mem_cons.mp hy with rfl | hy
    · exact h1
    · have h2 := List.rel_of_pairwise_cons ih hy
      unfold leSt at h1 h2 ⊢
      simp only [Bool.not_eq_true', decide_eq_false_iff_not, List.not_lt] at h1 h2 ⊢
      exact List.le_trans h1 h2
theorem str_ext {a b : Str} (h : a.cps.toList = b.cps.toList) : a = b := by
  cases a; cases b
  simp only at h
  rw [Array.toList_inj.mp h]
theorem sortT_eq {ys ks : List Str} (h : ys.Perm ks) (s : sortedS ys = true) : ys = sortT ks := by
  have s1 : ys.Pairwise (fun a b => leSt a b = true) := by
    cases ys with
    | nil => exact .nil
    | cons x r => exact risingS_pw s
  have h2 : (sortT ks).Pairwise (fun a b => leSt a b = true) := List.pairwise_mergeSort (fun a b c h1 h2 => by
    unfold leSt at h1 h2 ⊢
    simp only [Bool.not_eq_true', decide_eq_false_iff_not, List.not_lt] at h1 h2 ⊢
    exact List.le_trans h1 h2) (fun a b => by
    unfold leSt
    by_cases c : b.cps.toList < a.cps.toList
    · have : ¬ a.cps.toList < b.cps.toList := List.lt_asymm c
      simp [c, this]
    · simp [c]) ks
  refine List.Perm.eq_of_pairwise (le := fun a b : Str => leSt a b = true) (fun a b _ _ h1 h2 => ?_) s1 h2 (h.trans (List.mergeSort_perm _ _).symm)
  unfold leSt at h1 h2
  simp only [Bool.not_eq_true', decide_eq_false_iff_not, List.not_lt] at h1 h2
  exact str_ext (List.le_antisymm h1 h2)
theorem reps_ints {K : PySem.W.Frag} : ∀ ks : List Int, Reps K F ι (ks.map V.int) (ks.map D.int)
  | [] => .nil
  | k :: ks => .cons (.int k) (reps_ints ks)
theorem reps_strs {K : PySem.W.Frag} : ∀ ks : List Str, Reps K F ι (ks.map V.str) (ks.map D.str)
  | [] => .nil
  | k :: ks => .cons (.str k) (reps_strs ks)
theorem blt_sortK (hp : X.pg p.cls p.con = p) (hc : X.calm = true) {es : List (Key × D)} {v : V} (cv : CV p F ι H v (.dK es)) (e : sortKD es = some d) {Q : VK} (k : ∀ c ws ds, d = .lst ds → H c = none → Reps p.K F ι ws ds → Q (.ref c) (upd H c (.lst ws))) : wC X (.builtin "sorted") [v] H Q := by
  obtain ⟨a, kvs, rfl, q1, q2, q3⟩ := cv
  unfold sortKD at e
  split at e
  · rename_i ks hk
    split at e
    · rename_i hz
      cases e
      refine wC_of (call_sortedDI hc) ⟨a, kvs, ks, rfl, q1, q2.trans (intKs_ok hk), hz, fun ys c h1 h2 h3 => ?_⟩
      rw [sortI_eq h1 h2]
      exact k c _ _ rfl h3 (reps_ints _)
    · cases e
  · split at e
    · rename_i ks hk
      split at e
      · rename_i hz
        cases e
        refine wC_of (call_sortedD hc) ⟨a, kvs, ks, rfl, q1, q2.trans (strKs_ok hk), hz, fun ys c h1 h2 h3 => ?_⟩
        rw [sortT_eq h1 h2]
        exact k c _ _ rfl h3 (reps_strs _)
      · cases e
    · cases e
theorem rep_of_cv {v : V} (cv : CV p F ι H v d) (h : (∃ x, d = .str x) ∨ ∃ i, d = .int i) : Rep p.K F ι v d := by
  rcases h with ⟨x, rfl⟩ | ⟨i, rfl⟩
  · cases (show v = .str x from cv); exact .str _
  · cases (show v = .int i from cv); exact .int _

def isCon : D → Bool
  | .lst _ => true | .dK _ => true | .dT _ => true
  | _ => false
/-- an operand: what is seen of it, and that it is frozen unless it is a container -/
structure CW (p : Pg) (F : Hp) (ι : List Addr) (H : Hp) (v : V) (d : D) : Prop where
  cv : CV p F ι H v d
  rep : isCon d = false → Rep p.K F ι v d
abbrev CWs (p : Pg) (F : Hp) (ι : List Addr) (H : Hp) : List V → List D → Prop := Paired (CW p F ι H)
theorem cw_of {Pr : Hp} {ρ : Env'} {S : Store} {α : Nat → Addr} {σ : L2.St} {v : V} {h : Hd} (R : Rel p Pr ρ S F ι α σ H) (r : HRep p F ι α v h) (e : cont ρ S h = some d) : CW p F ι H v d := by
  refine ⟨cv_of R r e, fun hc => ?_⟩
  cases h with
  | slot i =>
    simp only [cont] at e
    split at e
    · rename_i u hu
      cases e
      obtain ⟨_, _, _, q, _⟩ := R.own i _ hu
      cases d <;> simp_all [CRep, isCon]
    · cases e
  | val u =>
    by_cases hr : ∃ n, u = .ref n
    · obtain ⟨n, rfl⟩ := hr
      simp only [cont] at e
      split at e
      · rename_i c hc'
        cases e
        obtain ⟨b, hb, _, q⟩ := R.wd.at hc'
        have q : CRep p.K F ι H b d := q
        cases d <;> simp_all [CRep, isCon]
      · rename_i c hc'
        cases e
        obtain ⟨b, hb, _, q⟩ := R.wd.at hc'
        have q : LRep p.K F ι H b d := q
        cases d <;> simp_all [LRep, isCon]
      · cases e
    · have hd : ∀ n, u ≠ .ref n := fun n q => hr ⟨n, q⟩
      rw [cont_val hd] at e
      cases e
      exact r
theorem CWs.one {vs : List V} {e : D} (r : CWs p F ι H vs [e]) : ∃ v, vs = [v] ∧ CW p F ι H v e := by
  cases r with
  | cons a b => cases b; exact ⟨_, rfl, a⟩
theorem CWs.two {vs : List V} {e f : D} (r : CWs p F ι H vs [e, f]) : ∃ v w, vs = [v, w] ∧ CW p F ι H v e ∧ CW p F ι H w f := by
  cases r with
  | cons a b => cases b with
    | cons b c => cases c; exact ⟨_, _, rfl, a, b⟩
theorem listOf_lst (hp : X.pg p.cls p.con = p) (S : ∀ a o, F a = some o → SubH H a o) {ds : List D} {v : V} (cv : CV p F ι H v (.lst ds)) {Q : VK} (k : ∀ z F' H', Grow F H F' H' → Rep p.K F' ι z (.lst ds) → Q z H') : wC X (.type "list") [v] H Q := by
  have hK : X.K = p.K := by rw [← hp]; rfl
  obtain ⟨a, vs, rfl, q1, q2⟩ := cv
  exact wC_of call_list_of ⟨a, vs, rfl, .inl (by rw [hK]; exact q1), fun l hl => newL S q2 hl k⟩
theorem listOf_tup (hp : X.pg p.cls p.con = p) (S : ∀ a o, F a = some o → SubH H a o) {ds : List D} {v : V} (cv : CV p F ι H v (.tup ds)) {Q : VK} (k : ∀ z F' H', Grow F H F' H' → Rep p.K F' ι z (.lst ds) → Q z H') : wC X (.type "list") [v] H Q := by
  have hK : X.K = p.K := by rw [← hp]; rfl
  obtain ⟨a, vs, rfl, q1, q2⟩ := cv
  exact wC_of call_list_of ⟨a, vs, rfl, .inr (q1.sq), fun l hl => newL S q2 hl k⟩
theorem blt_ok (b : Bi) (hp : X.pg p.cls p.con = p) (hc : X.calm = true) (hr : X.A.units + 64 < cLine) (hg : X.A.guards = some []) (S : ∀ a o, F a = some o → SubH H a o) {ds : List D} {vs : List V} (r : CWs p F ι H vs ds) (e : bltD b ds = some d) {Q : VK} (k : ∀ z F' H', Grow F H F' H' → Rep p.K F' ι z d → Q z H') : wC X b.fn vs H Q := by
  have hK : X.K = p.K := by rw [← hp]; rfl
  have k0 : ∀ z, Rep p.K F ι z d → Q z H := fun z q => k z F H .refl q
  unfold bltD at e
  split at e
  · obtain ⟨v, rfl, c⟩ := r.one
    cases c.cv
    cases e
    exact wC_of call_abs ⟨_, rfl, k0 _ (.int _)⟩
  · obtain ⟨v, rfl, c⟩ := r.one
    unfold lenD at e
    split at e
    · cases e
      obtain ⟨a, ws, rfl, q1, q2⟩ := c.cv
      exact wC_of call_len_seq ⟨a, ws, rfl, .inl (by rw [hK]; exact q1), by rw [q2.length]; exact k0 _ (.int _)⟩
    · cases e
      obtain ⟨a, ws, rfl, q1, q2⟩ := c.cv
      exact wC_of call_len_seq ⟨a, ws, rfl, .inr (q1.sq), by rw [q2.length]; exact k0 _ (.int _)⟩
    · split at e
      · rename_i hz
        cases e
        cases c.cv
        exact wC_of call_len_str ⟨_, rfl, hz, k0 _ (.int _)⟩
      · cases e
    · rename_i es
      cases e
      obtain ⟨a, kvs, rfl, q1, q2, q3⟩ := c.cv
      intro pins s σ us I rv
      rw [Vals.ref1 rv]
      have hl : kvs.length = es.length := RKV.len (K := p.K) (F := F) (ι := ι) ⟨q2, q3⟩
      exact d_len I q1 fun t s' I' => ⟨.int kvs.length, H, I', ⟨t, rfl⟩, by rw [hl]; exact k0 _ (.int _)⟩
    · cases e
  · obtain ⟨v, w, rfl, c1, c2⟩ := r.two
    cases c1.cv; cases c2.cv; cases e
    exact wC_of (call_max2 hc) ⟨_, _, rfl, k0 _ (.int _)⟩
  · obtain ⟨v, w, rfl, c1, c2⟩ := r.two
    cases c1.cv; cases c2.cv; cases e
    exact wC_of (call_min2 hc) ⟨_, _, rfl, k0 _ (.int _)⟩
  · split at e
    · rename_i ok
      cases e
      obtain ⟨v, w, rfl, c1, c2⟩ := r.two
      exact blt_max2 hp hc hr S c1.cv c2.cv (c1.rep rfl) (c2.rep rfl) ok k0
    · cases e
  · split at e
    · rename_i ok
      cases e
      obtain ⟨v, w, rfl, c1, c2⟩ := r.two
      exact blt_min2 hp hc hr S c1.cv c2.cv (c1.rep rfl) (c2.rep rfl) ok k0
    · cases e
  · split at e
    · rename_i ok
      cases e
      obtain ⟨v, w, rfl, c1, c2⟩ := r.two
      exact blt_max2 hp hc hr S c1.cv c2.cv (c1.rep rfl) (c2.rep rfl) ok k0
    · cases e
  · split at e
    · rename_i ok
      cases e
      obtain ⟨v, w, rfl, c1, c2⟩ := r.two
      exact blt_min2 hp hc hr S c1.cv c2.cv (c1.rep rfl) (c2.rep rfl) ok k0
    · cases e
  · split at e
    · rename_i ok
      cases e
      obtain ⟨v, rfl, c⟩ := r.one
      exact blt_max hp hc hr S c.cv ok k0
    · cases e
  · split at e
    · rename_i ok
      cases e
      obtain ⟨v, rfl, c⟩ := r.one
      exact blt_min hp hc hr S c.cv ok k0
    · cases e
  · unfold sortedD at e
    split at e
    · rename_i ok
      cases e
      obtain ⟨v, rfl, c⟩ := r.one
      exact blt_sorted hp hr S c.cv ok fun c ws hc q => newL S q hc k
    · cases e
  · obtain ⟨v, rfl, c⟩ := r.one
    exact blt_sortK hp hc c.cv e fun c ws ds hd hc q => by subst hd; exact newL S q hc k
  · obtain ⟨v, rfl, c⟩ := r.one
    exact listOf_lst hp S c.cv (by cases e; exact k)
  · obtain ⟨v, rfl, c⟩ := r.one
    exact listOf_tup hp S c.cv (by cases e; exact k)
  · obtain ⟨v, rfl, c⟩ := r.one
    cases c.cv; cases e
    exact wC_of call_int1 (.inl ⟨_, rfl, k0 _ (.int _)⟩)
  · obtain ⟨v, rfl, c⟩ := r.one
    cases c.cv; cases e
    exact wC_of call_int1 (.inr ⟨_, rfl, k0 _ (.int _)⟩)
  · split at e
    · rename_i h
      cases e
      obtain ⟨v, rfl, c⟩ := r.one
      exact blt_repr hp hr hg S c.cv h.1 h.2.1 h.2.2 (k0 _ (.str _))
    · unfold reprD' at e
      split at e
      · rename_i h
        cases e
        obtain ⟨v, rfl, c⟩ := r.one
        exact blt_shw hp hr hg S c.cv h (k0 _ (.str _))
      · cases e
  · cases e
theorem blt_new (b : Bi) (hb : b = .list ∨ b = .sorted) (hp : X.pg p.cls p.con = p) (hc : X.calm = true) (hr : X.A.units + 64 < cLine) (S : ∀ a o, F a = some o → SubH H a o) {ds : List D} {vs : List V} (r : CWs p F ι H vs ds) (e : bltD b ds = some d) {Q : VK}
    (k : ∀ c ws es, d = .lst es → H c = none → Reps p.K F ι ws es → Q (.ref c) (upd H c (.lst ws))) : wC X b.fn vs H Q := by
  have hK : X.K = p.K := by rw [← hp]; rfl
  unfold bltD at e
  split at e <;> try (rcases hb with hb | hb <;> cases hb)
  · unfold sortedD at e
    split at e
    · rename_i ok
      cases e
      obtain ⟨v, rfl, c⟩ := r.one
      exact blt_sorted hp hr S c.cv ok fun c ws hc q => k c ws _ rfl hc q
    · cases e
  · obtain ⟨v, rfl, c⟩ := r.one
    exact blt_sortK hp hc c.cv e k
  · obtain ⟨v, rfl, c⟩ := r.one
    obtain ⟨a, vs, rfl, q1, q2⟩ := c.cv
    cases e
    exact wC_of call_list_of ⟨a, vs, rfl, .inl (by rw [hK]; exact q1), fun l hl => k _ _ _ rfl hl q2⟩
  · obtain ⟨v, rfl, c⟩ := r.one
    obtain ⟨a, vs, rfl, q1, q2⟩ := c.cv
    cases e
    exact wC_of call_list_of ⟨a, vs, rfl, .inr (q1.sq), fun l hl => k _ _ _ rfl hl q2⟩
  all_goals cases e
end
end Z

set_option Elab.async false
set_option linter.all false
set_option maxRecDepth 100000
set_option maxHeartbeats 4000000
namespace Z
open PySem PySem.Spec PyProof.Rows L2

section
variable {p : Pg} {N : List Str} {sc : Scope} {fn : Str → Bool} {k : Nat} {X : Cx} {G : Fns} {ρ : Env'} {S : Store} {e ea eb ec : Expr} {pos : Pos} {a b c : Ex}
theorem Good.units (g : Good p N sc fn k X) : X.A.units + 64 < cLine := g.room.units
theorem Good.K (g : Good p N sc fn k X) : X.K = p.K := by rw [← g.pg]; rfl
/-- what a name's place holds -/
theorem fe_var {i : Nat} {x : Str} (g : Good p N sc fn k X) (hN : N[i]? = some x) (hv : Vis sc x) (h1 : (x == ("__debug__" : Str)) = false) (h2 : (x == ("__classdict__" : Str)) = false) : FE p X ρ S (.Name x pos) (evE G (.var i) ρ S) := by
  intro Pr F ι α σ H R d S' e Q q
  rw [evE] at e
  split at e
  · rename_i u hu
    cases e
    obtain ⟨v, e1, e2⟩ := R.fz i _ hu
    exact wE_of (pe_var (i := i) (by rw [g.hN]; exact hN) (by rw [g.sc]; exact hv) h1 h2) ⟨v, e1, q v F ι H R (LeH.refl _) (LeA.refl _) e2⟩
  · cases e
theorem fh_var {i : Nat} {x : Str} (g : Good p N sc fn k X) (hN : N[i]? = some x) (hv : Vis sc x) (h1 : (x == ("__debug__" : Str)) = false) (h2 : (x == ("__classdict__" : Str)) = false) : FH p X ρ S (.Name x pos) (hOf (.var i) ρ S (evE G (.var i) ρ S)) := by
  intro Pr F ι α σ H R d S' e Q q
  simp only [hOf] at e
  have pe := pe_var (X := X) (pos := pos) (i := i) (by rw [g.hN]; exact hN) (by rw [g.sc]; exact hv) h1 h2
  split at e
  · rename_i u hu
    cases e
    obtain ⟨e1, e2⟩ := R.own i _ hu
    exact wE_of pe ⟨_, e1, q _ F ι H R (LeH.refl _) (LeA.refl _) (show HRep p F ι α (.ref (α i)) (.slot i) from rfl)⟩
  · rename_i u hu
    cases e
    obtain ⟨v, e1, e2⟩ := R.fz i _ hu
    exact wE_of pe ⟨v, e1, q v F ι H R (LeH.refl _) (LeA.refl _) e2⟩
  · cases e
theorem fh_of (hn : ∀ i, a ≠ .var i) (h : FE p X ρ S e (evE G a ρ S)) : FH p X ρ S e (hOf a ρ S (evE G a ρ S)) := by
  intro Pr F ι α σ H R d S' e' Q q
  have : hOf a ρ S (evE G a ρ S) = (evE G a ρ S).map fun x => (Hd.val x.1, x.2) := by
    cases a <;> first | rfl | exact absurd rfl (hn _)
  rw [this] at e'
  obtain ⟨⟨d', S2⟩, h1, h2⟩ := Option.map_eq_some_iff.mp e'
  cases h2
  exact h Pr F ι α σ H R _ _ h1 Q fun v F' ι' H' R' l1 l2 r => q v F' ι' H' R' l1 l2 r
theorem fe_cst {c : Cst} {j : Nat} : ∀ {kc : Const}, (match c, kc with
    | .non, .none => true | .bl b, .bool b' => decide (b = b') | .int i, .int i' => decide (i = i') | .str x, .str y => decide (x = y)
    | _, _ => false) = true → FE p X ρ S (.Constant kc j pos) (evE G (.cst c) ρ S) := by
  intro kc hk Pr F ι α σ H R d S' e Q q
  rw [evE] at e
  cases e
  cases c <;> cases kc <;> simp at hk
  · exact wE_of pe_non (q _ F ι H R (LeH.refl _) (LeA.refl _) .non)
  · subst hk; exact wE_of pe_bl (q _ F ι H R (LeH.refl _) (LeA.refl _) (.bl _))
  · subst hk; exact wE_of pe_int (q _ F ι H R (LeH.refl _) (LeA.refl _) (.int _))
  · subst hk; exact wE_of pe_str (q _ F ι H R (LeH.refl _) (LeA.refl _) (.str _))
theorem fe_glb {x : Str} {gc : GC} (g : Good p N sc fn k X) (hg : sc.names.lookup x = some .globalImplicit) (hc : p.con x = some gc.d) (hd : (x == ("__debug__" : Str)) = false) : FE p X ρ S (.Name x pos) (evE G (.glb x gc) ρ S) := by
  intro Pr F ι α σ H R d S' e Q q
  rw [evE] at e
  cases e
  obtain ⟨u, v, h1, h2, h3⟩ := R.wd.con x _ hc
  have hm : X.mg x = some u := by rw [← h1, ← g.pg]; rfl
  exact wE_of (pe_glob (by show X.env.scope.names.lookup x = _; rw [g.sc]; exact hg) hm h2 hd) (q _ F ι H R (LeH.refl _) (LeA.refl _) h3)

/-- two operands, then what they hold at the end -/
theorem two_h {ra : Option (Hd × Store)} {rb : Store → Option (Hd × Store)} (ha : FH p X ρ S ea ra) (hb : ∀ S, FH p X ρ S eb (rb S)) {Pr F ι α σ H} (R : Rel p Pr ρ S F ι α σ H) {h1 h2 : Hd} {S1 S2 : Store} (e1 : ra = some (h1, S1)) (e2 : rb S1 = some (h2, S2)) {r : R2} {Q : VK}
    (q : ∀ x y F' ι' H', Rel p Pr ρ S2 F' ι' α σ H' → LeH F F' → LeA ι ι' → HRep p F' ι' α x h1 → HRep p F' ι' α y h2 → r x y H' Q) : tOp r (wE X ea) (wE X eb) σ H Q := by
  refine ha Pr F ι α σ H R _ _ e1 _ fun x F1 ι1 H1 R1 l1 m1 r1 => ?_
  refine hb S1 Pr F1 ι1 α σ H1 R1 _ _ e2 _ fun y F2 ι2 H2 R2 l2 m2 r2 => ?_
  exact q x y F2 ι2 H2 R2 (l1.trans l2) (m1.trans m2) (r1.le l2 m2) r2
theorem fe_bin {o : Operator} (g : Good p N sc fn k X) (ha : FH p X ρ S ea (hOf a ρ S (evE G a ρ S))) (hb : ∀ S, FH p X ρ S eb (hOf b ρ S (evE G b ρ S))) : FE p X ρ S (.BinOp ea o eb pos) (evE G (.bin o a b) ρ S) := by
  intro Pr F ι α σ H R d S' e Q q
  rw [evE] at e
  obtain ⟨⟨h1, S1⟩, e1, e⟩ := Option.bind_eq_some_iff.mp e
  obtain ⟨⟨h2, S2⟩, e2, e⟩ := Option.bind_eq_some_iff.mp e
  obtain ⟨u, e3, e⟩ := Option.bind_eq_some_iff.mp e
  obtain ⟨v, e4, e⟩ := Option.bind_eq_some_iff.mp e
  obtain ⟨d', e5, e6⟩ := Option.map_eq_some_iff.mp e
  cases e6
  refine wE_of (pe_op wR_ok peW peW) (two_h (rb := fun S => hOf b ρ S (evE G b ρ S)) ha hb R e1 e2 fun x y F' ι' H' R' l m r1 r2 => ?_)
  have c1 := cw_of R' r1 e3
  have c2 := cw_of R' r2 e4
  refine bin_ok o g.pg R'.wd.sub c1.cv c2.cv ?_ ?_ e5 fun z F2 H2 gr rz => q z F2 ι' H2 (R'.grow gr) (l.trans gr.f) m rz
  · cases u <;> first | exact .inl (c1.rep rfl) | exact .inr (fun _ h => nomatch h)
  · cases v <;> first | exact .inl (c2.rep rfl) | exact .inr (fun _ h => nomatch h)

theorem rd_cmp {o : CmpOp} (g : Good p N sc fn k X) (ha : FH p X ρ S ea (hOf a ρ S (evE G a ρ S))) (hb : ∀ S, FH p X ρ S eb (hOf b ρ S (evE G b ρ S))) {Pr F ι α σ H} (R : Rel p Pr ρ S F ι α σ H) {d : D} {S' : Store} (e : evE G (.cmp o a b) ρ S = some (d, S')) {Q : VK}
    (q : ∀ r F' ι' H', d = .bl r → Rel p Pr ρ S' F' ι' α σ H' → LeH F F' → LeA ι ι' → Q (.bl r) H') : tOp (wR X (compareOp o)) (wE X ea) (wE X eb) σ H Q := by
  rw [evE] at e
  obtain ⟨⟨h1, S1⟩, e1, e⟩ := Option.bind_eq_some_iff.mp e
  obtain ⟨⟨h2, S2⟩, e2, e⟩ := Option.bind_eq_some_iff.mp e
  obtain ⟨u, e3, e⟩ := Option.bind_eq_some_iff.mp e
  obtain ⟨v, e4, e⟩ := Option.bind_eq_some_iff.mp e
  obtain ⟨d', e5, e6⟩ := Option.map_eq_some_iff.mp e
  cases e6
  refine two_h (rb := fun S => hOf b ρ S (evE G b ρ S)) ha hb R e1 e2 fun x y F' ι' H' R' l m r1 r2 => ?_
  exact cmp_ok o g.pg g.units R'.wd.sub (cv_of R' r1 e3) (cv_of R' r2 e4) e5 (q _ F' ι' H' rfl R' l m)
theorem fe_cmp {o : CmpOp} (g : Good p N sc fn k X) (ha : FH p X ρ S ea (hOf a ρ S (evE G a ρ S))) (hb : ∀ S, FH p X ρ S eb (hOf b ρ S (evE G b ρ S))) (hm : behindInMarks o eb = false) : FE p X ρ S (.Compare ea [o] [eb] pos) (evE G (.cmp o a b) ρ S) := by
  intro Pr F ι α σ H R d S' e Q q
  exact wE_of (pe_cmpR wR_ok peW peW hm) (rd_cmp g ha hb R e fun r F' ι' H' ed R' l m => q _ F' ι' H' R' l m (by rw [ed]; exact .bl r))
theorem ft_cmp {o : CmpOp} (g : Good p N sc fn k X) (ha : FH p X ρ S ea (hOf a ρ S (evE G a ρ S))) (hb : ∀ S, FH p X ρ S eb (hOf b ρ S (evE G b ρ S))) (hm : behindInMarks o eb = false) : FT p X ρ S (.Compare ea [o] [eb] pos) (evE G (.cmp o a b) ρ S) := by
  intro Pr F ι α σ H R d S' e Q q
  exact wT_of (pt_cmpR wR_ok peW peW hm) (rd_cmp g ha hb R e fun r F' ι' H' ed R' l m => ⟨r, rfl, by cases ed; exact q F' ι' H' R' l m⟩)
theorem rd_chn {o o' : CmpOp} (g : Good p N sc fn k X) (ha : FH p X ρ S ea (hOf a ρ S (evE G a ρ S))) (hb : ∀ S, FH p X ρ S eb (hOf b ρ S (evE G b ρ S))) (hc : ∀ S, FH p X ρ S ec (hOf c ρ S (evE G c ρ S))) {Pr F ι α σ H} (R : Rel p Pr ρ S F ι α σ H) {d : D} {S' : Store} (e : evE G (.chn o o' a b c) ρ S = some (d, S')) {Q : VK}
    (q : ∀ r F' ι' H', d = .bl r → Rel p Pr ρ S' F' ι' α σ H' → LeH F F' → LeA ι ι' → Q (.bl r) H') : tChain (wR X (compareOp o)) (wR X (compareOp o')) (wE X ea) (wE X eb) (wE X ec) σ H Q := by
  rw [evE] at e
  obtain ⟨⟨h1, S1⟩, e1, e⟩ := Option.bind_eq_some_iff.mp e
  obtain ⟨⟨h2, S2⟩, e2, e⟩ := Option.bind_eq_some_iff.mp e
  obtain ⟨u, e3, e⟩ := Option.bind_eq_some_iff.mp e
  obtain ⟨v, e4, e⟩ := Option.bind_eq_some_iff.mp e
  obtain ⟨r, e5, e⟩ := Option.bind_eq_some_iff.mp e
  refine ha Pr F ι α σ H R _ _ e1 _ fun x F1 ι1 H1 R1 l1 m1 r1 => ?_
  refine hb S1 Pr F1 ι1 α σ H1 R1 _ _ e2 _ fun y F2 ι2 H2 R2 l2 m2 r2 => ?_
  refine cmp_ok o g.pg g.units R2.wd.sub (cv_of R2 (r1.le l2 m2) e3) (cv_of R2 r2 e4) e5 ⟨r, rfl, ?_⟩
  by_cases hr : r = true
  · rw [if_pos hr] at e ⊢
    obtain ⟨⟨h3, S3⟩, e6, e⟩ := Option.bind_eq_some_iff.mp e
    obtain ⟨v', e7, e⟩ := Option.bind_eq_some_iff.mp e
    obtain ⟨w, e8, e⟩ := Option.bind_eq_some_iff.mp e
    obtain ⟨r', e9, e10⟩ := Option.map_eq_some_iff.mp e
    cases e10
    refine hc S2 Pr F2 ι2 α σ H2 R2 _ _ e6 _ fun z F3 ι3 H3 R3 l3 m3 r3 => ?_
    exact cmp_ok o' g.pg g.units R3.wd.sub (cv_of R3 (r2.le l3 m3) e7) (cv_of R3 r3 e8) e9 (q _ F3 ι3 H3 rfl R3 ((l1.trans l2).trans l3) ((m1.trans m2).trans m3))
  · rw [if_neg hr] at e ⊢
    cases e
    exact q _ F2 ι2 H2 rfl R2 (l1.trans l2) (m1.trans m2)
theorem fe_chn {o o' : CmpOp} (g : Good p N sc fn k X) (ha : FH p X ρ S ea (hOf a ρ S (evE G a ρ S))) (hb : ∀ S, FH p X ρ S eb (hOf b ρ S (evE G b ρ S))) (hc : ∀ S, FH p X ρ S ec (hOf c ρ S (evE G c ρ S))) (hm : behindInMarks o' ec = false) :
    FE p X ρ S (.Compare ea [o, o'] [eb, ec] pos) (evE G (.chn o o' a b c) ρ S) := by
  intro Pr F ι α σ H R d S' e Q q
  exact wE_of (pe_chain wR_ok wR_ok peW peW peW hm) (rd_chn g ha hb hc R e fun r F' ι' H' ed R' l m => q _ F' ι' H' R' l m (by rw [ed]; exact .bl r))
theorem ft_chn {o o' : CmpOp} (g : Good p N sc fn k X) (ha : FH p X ρ S ea (hOf a ρ S (evE G a ρ S))) (hb : ∀ S, FH p X ρ S eb (hOf b ρ S (evE G b ρ S))) (hc : ∀ S, FH p X ρ S ec (hOf c ρ S (evE G c ρ S))) (hm : behindInMarks o' ec = false) :
    FT p X ρ S (.Compare ea [o, o'] [eb, ec] pos) (evE G (.chn o o' a b c) ρ S) := by
  intro Pr F ι α σ H R d S' e Q q
  exact wT_of (pt_chain wR_ok wR_ok peW peW peW hm) (rd_chn g ha hb hc R e fun r F' ι' H' ed R' l m => ⟨r, rfl, by cases ed; exact q F' ι' H' R' l m⟩)
theorem iso_ok (o : CmpOp) (ho : o = .Is ∨ o = .IsNot) {F H : Hp} {ι : List Addr} {x y : V} {u v d : D} (rx : Rep p.K F ι x u) (ry : Rep p.K F ι y v) (e : isoD u (decide (o = .IsNot)) v = some d) {Q : VK} (q : ∀ r, d = .bl r → Q (.bl r) H) : wR X (compareOp o) x y H Q := by
  unfold isoD at e
  split at e
  · cases ry
    cases e
    have hx : u.isNon = decide (x = .non) := by cases rx <;> simp [D.isNon]
    rcases ho with rfl | rfl
    · refine wR_of op_isN ⟨rfl, ?_⟩
      have := q _ rfl
      rw [hx] at this; simpa using this
    · refine wR_of op_notN ⟨rfl, ?_⟩
      have := q _ rfl
      rw [hx] at this; simpa using this
  · rename_i b; split at e
    · rename_i c; cases e
      cases rx; cases ry
      have hb : (c == b) = decide (c = b) := by cases b <;> cases c <;> rfl
      rcases ho with rfl | rfl
      · refine wR_of op_isBl ⟨c, b, rfl, rfl, ?_⟩
        have := q _ rfl
        rw [hb] at this; simpa using this
      · refine wR_of op_notBl ⟨c, b, rfl, rfl, ?_⟩
        have := q _ rfl
        rw [hb] at this; simpa using this
    · cases e
  · cases e
theorem rd_iso {o : CmpOp} (ho : o = .Is ∨ o = .IsNot) {n : Bool} (hn : n = decide (o = .IsNot)) (ha : FE p X ρ S ea (evE G a ρ S)) (hb : ∀ S, FE p X ρ S eb (evE G b ρ S)) {Pr F ι α σ H} (R : Rel p Pr ρ S F ι α σ H) {d : D} {S' : Store} (e : evE G (.iso n a b) ρ S = some (d, S')) {Q : VK}
    (q : ∀ r F' ι' H', d = .bl r → Rel p Pr ρ S' F' ι' α σ H' → LeH F F' → LeA ι ι' → Q (.bl r) H') : tOp (wR X (compareOp o)) (wE X ea) (wE X eb) σ H Q := by
  subst hn
  rw [evE] at e
  obtain ⟨⟨u, S1⟩, e1, e⟩ := Option.bind_eq_some_iff.mp e
  obtain ⟨⟨v, S2⟩, e2, e⟩ := Option.bind_eq_some_iff.mp e
  obtain ⟨d', e5, e6⟩ := Option.map_eq_some_iff.mp e
  cases e6
  refine ha Pr F ι α σ H R _ _ e1 _ fun x F1 ι1 H1 R1 l1 m1 r1 => ?_
  refine hb S1 Pr F1 ι1 α σ H1 R1 _ _ e2 _ fun y F2 ι2 H2 R2 l2 m2 r2 => ?_
  exact iso_ok o ho (r1.le l2 m2) r2 e5 fun r hr => q r F2 ι2 H2 hr R2 (l1.trans l2) (m1.trans m2)
theorem fe_iso {o : CmpOp} (ho : o = .Is ∨ o = .IsNot) {n : Bool} (hn : n = decide (o = .IsNot)) (ha : FE p X ρ S ea (evE G a ρ S)) (hb : ∀ S, FE p X ρ S eb (evE G b ρ S)) (hm : behindInMarks o eb = false) : FE p X ρ S (.Compare ea [o] [eb] pos) (evE G (.iso n a b) ρ S) := by
  intro Pr F ι α σ H R d S' e Q q
  exact wE_of (pe_cmpR wR_ok peW peW hm) (rd_iso ho hn ha hb R e fun r F' ι' H' ed R' l m => q _ F' ι' H' R' l m (by rw [ed]; exact .bl r))
theorem ft_iso {o : CmpOp} (ho : o = .Is ∨ o = .IsNot) {n : Bool} (hn : n = decide (o = .IsNot)) (ha : FE p X ρ S ea (evE G a ρ S)) (hb : ∀ S, FE p X ρ S eb (evE G b ρ S)) (hm : behindInMarks o eb = false) : FT p X ρ S (.Compare ea [o] [eb] pos) (evE G (.iso n a b) ρ S) := by
  intro Pr F ι α σ H R d S' e Q q
  exact wT_of (pt_cmpR wR_ok peW peW hm) (rd_iso ho hn ha hb R e fun r F' ι' H' ed R' l m => ⟨r, rfl, by cases ed; exact q F' ι' H' R' l m⟩)
/-- a value as a test -/
theorem ft_val {r : Option (D × Store)} (h : FE p X ρ S e r) (he : ∀ whole, isTrue e X.env whole = (do let v ← whole; standAt e.pos; holding [v] (truthy v))) : FT p X ρ S e r := by
  intro Pr F ι α σ H R d S' e' Q q
  exact wT_of (pt_val peW he) (h Pr F ι α σ H R _ _ e' _ fun v F' ι' H' R' l m rv => by cases rv; exact ⟨d, rfl, q F' ι' H' R' l m⟩)
theorem blOf_eq {d : D} {c : Bool} (h : blOf d = some c) : d = .bl c := by cases d <;> simp_all [blOf]
theorem intOf_eq {d : D} {c : Int} (h : intOf d = some c) : d = .int c := by cases d <;> simp_all [intOf]
theorem fe_neg (ha : FE p X ρ S ea (evE G a ρ S)) : FE p X ρ S (.UnaryOp .USub ea pos) (evE G (.neg a) ρ S) := by
  intro Pr F ι α σ H R d S' e Q q
  rw [evE] at e
  obtain ⟨⟨u, S1⟩, e1, e⟩ := Option.bind_eq_some_iff.mp e
  obtain ⟨i, e2, e3⟩ := Option.map_eq_some_iff.mp e
  cases e3
  cases intOf_eq e2
  exact wE_of (pe_un un_neg peW) (ha Pr F ι α σ H R _ _ e1 _ fun v F' ι' H' R' l m rv => by cases rv; exact ⟨_, rfl, q _ F' ι' H' R' l m (.int _)⟩)
theorem fe_not (ha : FE p X ρ S ea (evE G a ρ S)) : FE p X ρ S (.UnaryOp .Not ea pos) (evE G (.not a) ρ S) := by
  intro Pr F ι α σ H R d S' e Q q
  rw [evE] at e
  obtain ⟨⟨u, S1⟩, e1, e⟩ := Option.bind_eq_some_iff.mp e
  obtain ⟨i, e2, e3⟩ := Option.map_eq_some_iff.mp e
  cases e3
  cases blOf_eq e2
  exact wE_of (pe_not peW) (ha Pr F ι α σ H R _ _ e1 _ fun v F' ι' H' R' l m rv => by cases rv; exact ⟨_, rfl, q _ F' ι' H' R' l m (.bl _)⟩)
theorem ft_not (ha : FT p X ρ S ea (evE G a ρ S)) : FT p X ρ S (.UnaryOp .Not ea pos) (evE G (.not a) ρ S) := by
  intro Pr F ι α σ H R d S' e Q q
  rw [evE] at e
  obtain ⟨⟨u, S1⟩, e1, e⟩ := Option.bind_eq_some_iff.mp e
  obtain ⟨i, e2, e3⟩ := Option.map_eq_some_iff.mp e
  cases e3
  cases blOf_eq e2
  exact wT_of (pt_not ptW) (ha Pr F ι α σ H R _ _ e1 _ fun F' ι' H' R' l m => q F' ι' H' R' l m)
section
variable {es : List Expr}
/-- the last of a chain of and, or -/
theorem fe_one {op : BoolOp} {r : Option (D × Store)} (h : FE p X ρ S e r) : FE p X ρ S (.BoolOp op [e] pos) r := by
  intro Pr F ι α σ H R d S' e' Q q
  exact wE_of (pe_one peW) (h Pr F ι α σ H R _ _ e' _ q)
theorem fe_and (ha : FE p X ρ S ea (evE G a ρ S)) (hb : ∀ S, FE p X ρ S (.BoolOp .And (eb :: es) pos) (evE G b ρ S)) : FE p X ρ S (.BoolOp .And (ea :: eb :: es) pos) (evE G (.and a b) ρ S) := by
  intro Pr F ι α σ H R d S' e Q q
  rw [evE] at e
  obtain ⟨⟨u, S1⟩, e1, e⟩ := Option.bind_eq_some_iff.mp e
  obtain ⟨i, e2, e3⟩ := Option.bind_eq_some_iff.mp e
  cases blOf_eq e2
  refine wE_of (pe_and peW peW) (ha Pr F ι α σ H R _ _ e1 _ fun v F' ι' H' R' l m rv => ?_)
  cases rv
  refine ⟨i, rfl, ?_⟩
  by_cases hi : i = true
  · rw [if_pos hi] at e3 ⊢
    exact hb S1 Pr F' ι' α σ H' R' _ _ e3 _ fun w F2 ι2 H2 R2 l2 m2 rw' => q w F2 ι2 H2 R2 (l.trans l2) (m.trans m2) rw'
  · rw [if_neg hi] at e3 ⊢
    cases e3
    exact q _ F' ι' H' R' l m (.bl _)
theorem fe_or (ha : FE p X ρ S ea (evE G a ρ S)) (hb : ∀ S, FE p X ρ S (.BoolOp .Or (eb :: es) pos) (evE G b ρ S)) : FE p X ρ S (.BoolOp .Or (ea :: eb :: es) pos) (evE G (.or a b) ρ S) := by
  intro Pr F ι α σ H R d S' e Q q
  rw [evE] at e
  obtain ⟨⟨u, S1⟩, e1, e⟩ := Option.bind_eq_some_iff.mp e
  obtain ⟨i, e2, e3⟩ := Option.bind_eq_some_iff.mp e
  cases blOf_eq e2
  refine wE_of (pe_or peW peW) (ha Pr F ι α σ H R _ _ e1 _ fun v F' ι' H' R' l m rv => ?_)
  cases rv
  refine ⟨i, rfl, ?_⟩
  by_cases hi : i = true
  · rw [if_pos hi] at e3 ⊢
    cases e3
    exact q _ F' ι' H' R' l m (.bl _)
  · rw [if_neg hi] at e3 ⊢
    exact hb S1 Pr F' ι' α σ H' R' _ _ e3 _ fun w F2 ι2 H2 R2 l2 m2 rw' => q w F2 ι2 H2 R2 (l.trans l2) (m.trans m2) rw'
theorem pwOf {op : BoolOp} {t : TT} (h : PT X (.BoolOp op es pos) t) : PW X (.BoolOp op es pos) t := ⟨fun wh pins s σ H Q I q => by
  have := h.run pins s σ H Q I q
  simp only [PySem.isTrue] at this ⊢
  exact this⟩
theorem ft_one {op : BoolOp} {r : Option (D × Store)} (h : FT p X ρ S e r) : FT p X ρ S (.BoolOp op [e] pos) r := by
  intro Pr F ι α σ H R d S' e' Q q
  cases op with
  | And => exact wT_of (pw_and1 ptW).pt (h Pr F ι α σ H R _ _ e' _ q)
  | Or => exact wT_of (pw_or1 ptW).pt (h Pr F ι α σ H R _ _ e' _ q)
theorem ft_and (ha : FT p X ρ S ea (evE G a ρ S)) (hb : ∀ S, FT p X ρ S (.BoolOp .And (eb :: es) pos) (evE G b ρ S)) : FT p X ρ S (.BoolOp .And (ea :: eb :: es) pos) (evE G (.and a b) ρ S) := by
  intro Pr F ι α σ H R d S' e Q q
  rw [evE] at e
  obtain ⟨⟨u, S1⟩, e1, e⟩ := Option.bind_eq_some_iff.mp e
  obtain ⟨i, e2, e3⟩ := Option.bind_eq_some_iff.mp e
  cases blOf_eq e2
  refine wT_of (pw_and ptW (pwOf ptW)).pt (ha Pr F ι α σ H R _ _ e1 _ fun F' ι' H' R' l m => ?_)
  by_cases hi : i = true
  · rw [if_pos hi] at e3 ⊢
    exact hb S1 Pr F' ι' α σ H' R' _ _ e3 _ fun F2 ι2 H2 R2 l2 m2 => q F2 ι2 H2 R2 (l.trans l2) (m.trans m2)
  · rw [if_neg hi] at e3 ⊢
    cases e3
    exact q F' ι' H' R' l m
theorem ft_or (ha : FT p X ρ S ea (evE G a ρ S)) (hb : ∀ S, FT p X ρ S (.BoolOp .Or (eb :: es) pos) (evE G b ρ S)) : FT p X ρ S (.BoolOp .Or (ea :: eb :: es) pos) (evE G (.or a b) ρ S) := by
  intro Pr F ι α σ H R d S' e Q q
  rw [evE] at e
  obtain ⟨⟨u, S1⟩, e1, e⟩ := Option.bind_eq_some_iff.mp e
  obtain ⟨i, e2, e3⟩ := Option.bind_eq_some_iff.mp e
  cases blOf_eq e2
  refine wT_of (pw_or ptW (pwOf ptW)).pt (ha Pr F ι α σ H R _ _ e1 _ fun F' ι' H' R' l m => ?_)
  by_cases hi : i = true
  · rw [if_pos hi] at e3 ⊢
    cases e3
    exact q F' ι' H' R' l m
  · rw [if_neg hi] at e3 ⊢
    exact hb S1 Pr F' ι' α σ H' R' _ _ e3 _ fun F2 ι2 H2 R2 l2 m2 => q F2 ι2 H2 R2 (l.trans l2) (m.trans m2)
end
theorem fe_ife (hc : FT p X ρ S ec (evE G c ρ S)) (ha : ∀ S, FE p X ρ S ea (evE G a ρ S)) (hb : ∀ S, FE p X ρ S eb (evE G b ρ S)) : FE p X ρ S (.IfExp ec ea eb pos) (evE G (.ife c a b) ρ S) := by
  intro Pr F ι α σ H R d S' e Q q
  rw [evE] at e
  obtain ⟨⟨u, S1⟩, e1, e⟩ := Option.bind_eq_some_iff.mp e
  obtain ⟨i, e2, e3⟩ := Option.bind_eq_some_iff.mp e
  cases blOf_eq e2
  refine wE_of (pe_ifExp ptW peW peW) (hc Pr F ι α σ H R _ _ e1 _ fun F' ι' H' R' l m => ?_)
  by_cases hi : i = true
  · rw [if_pos hi] at e3 ⊢
    exact ha S1 Pr F' ι' α σ H' R' _ _ e3 _ fun w F2 ι2 H2 R2 l2 m2 rw' => q w F2 ι2 H2 R2 (l.trans l2) (m.trans m2) rw'
  · rw [if_neg hi] at e3 ⊢
    exact hb S1 Pr F' ι' α σ H' R' _ _ e3 _ fun w F2 ι2 H2 R2 l2 m2 rw' => q w F2 ι2 H2 R2 (l.trans l2) (m.trans m2) rw'

/-! ## argument lists, displays -/
def isStar : Expr → Bool
  | .Starred _ _ => true
  | _ => false
theorem star_cons {e : Expr} {es : List Expr} {env : Env} (h : isStar e = false) : starEach (e :: es) env = (false, eval e env) :: starEach es env := by
  cases e <;> first | rfl | cases h
theorem fa_nil : FA p X ρ S [] (evA G .nil ρ S) := by
  intro Pr F ι α σ H R ds S' e Q q
  rw [evA] at e
  cases e
  exact wA_of pa_nil (q [] F ι H R (LeH.refl _) (LeA.refl _) .nil)
theorem fa_cons {es : List Expr} {as : Ar} (hs : isStar e = false) (ha : FE p X ρ S e (evE G a ρ S)) (hr : ∀ S, FA p X ρ S es (evA G as ρ S)) : FA p X ρ S (e :: es) (evA G (.cons a as) ρ S) := by
  intro Pr F ι α σ H R ds S' e' Q q
  rw [evA] at e'
  obtain ⟨⟨u, S1⟩, e1, e'⟩ := Option.bind_eq_some_iff.mp e'
  obtain ⟨⟨us, S2⟩, e2, e3⟩ := Option.map_eq_some_iff.mp e'
  cases e3
  refine wA_of (pa_cons peW paW (star_cons hs)) (ha Pr F ι α σ H R _ _ e1 _ fun v F' ι' H' R' l m rv => ?_)
  exact hr S1 Pr F' ι' α σ H' R' _ _ e2 _ fun vs F2 ι2 H2 R2 l2 m2 rs => q (v :: vs) F2 ι2 H2 R2 (l.trans l2) (m.trans m2) (.cons (rv.le l2 m2) rs)
theorem fhs_nil : FHs p X ρ S [] (evH G .nil ρ S) := by
  intro Pr F ι α σ H R ds S' e Q q
  rw [evH] at e
  cases e
  exact wA_of pa_nil (q [] F ι H R (LeH.refl _) (LeA.refl _) .nil)
theorem HReps.le {F F' : Hp} {ι ι' : List Addr} {α : Nat → Addr} {vs : List V} {hs : List Hd} (l : LeH F F') (m : LeA ι ι') (r : HReps p F ι α vs hs) : HReps p F' ι' α vs hs := Paired.mapP r fun _ _ q => q.le l m
theorem fhs_cons {es : List Expr} {as : Ar} (hs : isStar e = false) (ha : FH p X ρ S e (hOf a ρ S (evE G a ρ S))) (hr : ∀ S, FHs p X ρ S es (evH G as ρ S)) : FHs p X ρ S (e :: es) (evH G (.cons a as) ρ S) := by
  intro Pr F ι α σ H R ds S' e' Q q
  rw [evH] at e'
  obtain ⟨⟨u, S1⟩, e1, e'⟩ := Option.bind_eq_some_iff.mp e'
  obtain ⟨⟨us, S2⟩, e2, e3⟩ := Option.map_eq_some_iff.mp e'
  cases e3
  refine wA_of (pa_cons peW paW (star_cons hs)) (ha Pr F ι α σ H R _ _ e1 _ fun v F' ι' H' R' l m rv => ?_)
  exact hr S1 Pr F' ι' α σ H' R' _ _ e2 _ fun vs F2 ι2 H2 R2 l2 m2 rs => q (v :: vs) F2 ι2 H2 R2 (l.trans l2) (m.trans m2) (.cons (rv.le l2 m2) rs)
theorem fe_tup {es : List Expr} {as : Ar} {x1 : Nat} (ha : FA p X ρ S es (evA G as ρ S)) : FE p X ρ S (.Tuple es x1 pos) (evE G (.tup as) ρ S) := by
  intro Pr F ι α σ H R d S' e Q q
  rw [evE] at e
  obtain ⟨⟨us, S1⟩, e1, e⟩ := Option.bind_eq_some_iff.mp e
  split at e
  · rename_i hz
    cases e
    refine wE_of (pe_tup paW) (ha Pr F ι α σ H R _ _ e1 _ fun vs F' ι' H' R' l m rs => ⟨by rw [rs.length]; exact hz, fun c hc => ?_⟩)
    exact newT R'.wd.sub rs hc fun z F2 H2 gr rz => q z F2 ι' H2 (R'.grow gr) (l.trans gr.f) m rz
  · cases e
theorem fe_list {es : List Expr} {as : Ar} (ha : FA p X ρ S es (evA G as ρ S)) : FE p X ρ S (.List es pos) (evE G (.list as) ρ S) := by
  intro Pr F ι α σ H R d S' e Q q
  rw [evE] at e
  obtain ⟨⟨us, S1⟩, e1, e⟩ := Option.bind_eq_some_iff.mp e
  split at e
  · rename_i hz
    cases e
    refine wE_of (pe_lst paW) (ha Pr F ι α σ H R _ _ e1 _ fun vs F' ι' H' R' l m rs => ⟨by rw [rs.length]; exact hz, fun c hc => ?_⟩)
    exact newL R'.wd.sub rs hc fun z F2 H2 gr rz => q z F2 ι' H2 (R'.grow gr) (l.trans gr.f) m rz
  · cases e
theorem fe_idx (g : Good p N sc fn k X) (hb0 : PlainIx eb) (ha : FH p X ρ S ea (hOf a ρ S (evE G a ρ S))) (hb : ∀ S, FE p X ρ S eb (evE G b ρ S)) : FE p X ρ S (.Subscript ea eb pos) (evE G (.idx a b) ρ S) := by
  intro Pr F ι α σ H R d S' e Q q
  rw [evE] at e
  obtain ⟨⟨h1, S1⟩, e1, e⟩ := Option.bind_eq_some_iff.mp e
  obtain ⟨⟨i, S2⟩, e2, e⟩ := Option.bind_eq_some_iff.mp e
  obtain ⟨u, e3, e⟩ := Option.bind_eq_some_iff.mp e
  obtain ⟨d', e5, e6⟩ := Option.map_eq_some_iff.mp e
  cases e6
  refine wE_of (pe_wIx peW peW) (ha Pr F ι α σ H R _ _ e1 _ fun x F1 ι1 H1 R1 l1 m1 r1 => ?_)
  refine hb S1 Pr F1 ι1 α σ H1 R1 _ _ e2 _ fun y F2 ι2 H2 R2 l2 m2 r2 => ?_
  exact idx_ok g.pg g.units hb0 R2.wd.sub (cv_of R2 (r1.le l2 m2) e3) r2 e5 fun z rz => q z F2 ι2 H2 R2 (l1.trans l2) (m1.trans m2) rz
theorem plain_ix (h : (match eb with | .Slice _ _ _ _ => false | _ => true) = true) : PlainIx eb := by
  intro o i
  cases eb <;> first | rfl | cases h
theorem cws_of {Pr F ι α σ H} {S1 : Store} (R : Rel p Pr ρ S1 F ι α σ H) : ∀ {vs : List V} {hs : List Hd} {us : List D}, HReps p F ι α vs hs → hs.mapM (cont ρ S1) = some us → CWs p F ι H vs us := by
  intro vs hs us r
  induction r generalizing us with
  | nil => intro h; simp at h; subst h; exact .nil
  | cons a r ih =>
    intro h
    rw [List.mapM_cons] at h
    obtain ⟨y, h1, h⟩ := Option.bind_eq_some_iff.mp h
    obtain ⟨ys, h2, h⟩ := Option.bind_eq_some_iff.mp h
    cases h
    exact .cons (cw_of R a h1) (ih h2)
theorem fe_blt {es : List Expr} {as : Ar} {bi : Bi} {x : Str} {ps : Pos} (g : Good p N sc fn k X) (hx : x = bi.name) (hg : sc.names.lookup x = some .globalImplicit) (hm : p.mg x = none) (hb : bi ≠ .setLen) (h0 : isStar e = false) (hpl : (es.all fun e => !isStar e) = true) (ha : FHs p X ρ S (e :: es) (evH G as ρ S)) :
    FE p X ρ S (.Call (.Name x ps) (e :: es) [] pos) (evE G (.blt bi as) ρ S) := by
  intro Pr F ι α σ H R d S' e' Q q
  rw [evE] at e'
  obtain ⟨⟨hs, S1⟩, e1, e'⟩ := Option.bind_eq_some_iff.mp e'
  obtain ⟨us, e2, e'⟩ := Option.bind_eq_some_iff.mp e'
  obtain ⟨d', e5, e6⟩ := Option.map_eq_some_iff.mp e'
  cases e6
  have hG : Gl X x := by show X.env.scope.names.lookup x = _; rw [g.sc]; exact hg
  have hM : X.mg x = none := by rw [← hm, ← g.pg]; rfl
  have any0 : ∀ l : List Expr, (l.all fun e => !isStar e) = true → (backTo pos (starEach l X.env)).any (·.1) = false := by
    intro l
    induction l with
    | nil => intro _; rfl
    | cons y l ih =>
      intro h
      rw [List.all_cons, Bool.and_eq_true, Bool.not_eq_true'] at h
      rw [star_cons h.1]
      show (false || (backTo pos (starEach l X.env)).any (·.1)) = false
      rw [ih h.2]; rfl
  have rd : tCB (wC X bi.fn) (wA X (e :: es)) σ H Q := by
    refine ha Pr F ι α σ H R _ _ e1 _ fun vs F' ι' H' R' l m rs => ?_
    exact blt_ok bi g.pg g.calm g.units g.grd R'.wd.sub (cws_of R' rs e2) e5 fun z F2 H2 gr rz => q z F2 ι' H2 (R'.grow gr) (l.trans gr.f) m rz
  subst hx
  cases bi <;> first
    | exact absurd rfl hb
    | exact wE_of (pe_callB wC_ok hG hM (by decide +kernel) paW (by decide) (by decide) (star_cons h0) (any0 _ hpl)) rd
    | exact wE_of (pe_callTy wC_ok hG hM (by decide +kernel) paW (by decide) (by decide) (star_cons h0) (any0 _ hpl)) rd
end
end Z

set_option Elab.async false
set_option linter.all false
set_option maxRecDepth 100000
set_option maxHeartbeats 4000000
namespace Z
open PySem PySem.Spec PyProof.Rows L2

/-! # new containers, changed containers -/
structure Fr (p : Pg) (Pr : Hp) (ρ : Env') (F : Hp) (ι : List Addr) (α : Nat → Addr) (H : Hp) (a : Addr) (d : D) : Prop where
  rep : CRep p.K F ι H a d
  nf : F a = none
  ni : a ∉ ι
  np : Pr a = none
  no : ∀ j e, ρ[j]? = some (.own e) → α j ≠ a
/-- a new container comes, known to nobody -/
def FN (p : Pg) (X : Cx) (ρ : Env') (S : Store) (e : Expr) (r : Option (D × Store)) : Prop :=
  ∀ Pr F ι α σ H, Rel p Pr ρ S F ι α σ H → ∀ d S', r = some (d, S') → ∀ Q : VK,
    (∀ a F' ι' H', Rel p Pr ρ S' F' ι' α σ H' → LeH F F' → LeA ι ι' → Fr p Pr ρ F' ι' α H' a d → Q (.ref a) H') → wE X e σ H Q
section
variable {p : Pg} {Pr : Hp} {ρ : Env'} {S : Store} {F : Hp} {ι : List Addr} {α : Nat → Addr} {σ : L2.St} {H : Hp} {a : Addr} {d : D} {o : HO}
theorem CRep.rep {K : PySem.W.Frag} (r : CRep K F ι H a d) : ∃ o, H a = some o ∧ ∀ F' : Hp, LeH F F' → F' a = some o → Rep K F' ι (.ref a) d := by
  cases d <;> simp only [CRep] at r
  · obtain ⟨vs, e, q⟩ := r; exact ⟨_, e, fun F' l h => .lst h (q.le l (LeA.refl _))⟩
  · obtain ⟨vs, e, k, q⟩ := r; exact ⟨_, e, fun F' l h => .dK h k (q.le l (LeA.refl _))⟩
  · obtain ⟨vs, e, k, q⟩ := r; exact ⟨_, e, fun F' l h => .dT h k (q.le l (LeA.refl _))⟩
/-- from now on it stays as it is -/
theorem Rel.freeze (R : Rel p Pr ρ S F ι α σ H) (f : Fr p Pr ρ F ι α H a d) : ∃ F', Rel p Pr ρ S F' ι α σ H ∧ LeH F F' ∧ Rep p.K F' ι (.ref a) d := by
  obtain ⟨o, ha, hr⟩ := f.rep.rep
  have l : LeH F (upd F a o) := LeH.upd f.nf
  refine ⟨upd F a o, ?_, l, hr _ l upd_same⟩
  exact {
    wd := {
      sub := fun b u e => by
        by_cases hb : b = a
        · subst hb; rw [upd_same] at e; cases e; exact .inl ha
        · rw [upd_ne hb] at e; exact R.wd.sub b u e
      con := fun x d h => let ⟨u, v, h1, h2, h3⟩ := R.wd.con x d h; ⟨u, v, h1, h2, h3.le l (LeA.refl _)⟩
      len := R.wd.len
      nd := R.wd.nd
      cell := fun n c b h1 h2 => by
        obtain ⟨q1, q2⟩ := R.wd.cell n c b h1 h2
        refine ⟨?_, q2.le l (LeA.refl _) rfl⟩
        rw [upd_ne (fun z => f.ni (by rw [← z]; exact List.mem_of_getElem? h2))]; exact q1
      prot := fun b u h => by
        obtain ⟨q1, q2, q3⟩ := R.wd.prot b u h
        refine ⟨q1, q2.imp (fun q => ?_) id, q3⟩
        rw [upd_ne (fun z => by rw [z, f.np] at h; cases h)]; exact q }
    fz := fun i d h => let ⟨v, h1, h2⟩ := R.fz i d h; ⟨v, h1, h2.le l (LeA.refl _)⟩
    own := fun i d h => by
      obtain ⟨h1, h2, h3, h4, h5⟩ := R.own i d h
      exact ⟨h1, by rw [upd_ne (f.no i d h)]; exact h2, h3, h4.le l (LeA.refl _) rfl, h5⟩
    lng := R.lng
    inj := R.inj }
/-- laid just now -/
theorem Rel.alloc (R : Rel p Pr ρ S F ι α σ H) (h : H a = none) (c : ∀ G : Hp, G a = some o → CRep p.K F ι G a d) : Rel p Pr ρ S F ι α σ (upd H a o) ∧ Fr p Pr ρ F ι α (upd H a o) a d := by
  have hF := R.wd.fresh h
  refine ⟨R.grow ⟨LeH.upd h, LeH.refl _, fun b u e => .inl e⟩, c _ upd_same, hF, R.wd.notin h, ?_, fun j e hj z => ?_⟩
  · cases q : Pr a with
    | none => rfl
    | some u => rw [(R.wd.prot a u q).1] at h; cases h
  · obtain ⟨_, _, _, h4, _⟩ := R.own j e hj
    obtain ⟨u, t, _⟩ := h4.there
    rw [z, h] at t; cases t
/-- among the store's things -/
theorem Rel.addC {c : Cell} (R : Rel p Pr ρ S F ι α σ H) (frep : CellRep p F ι H a c) (fnf : F a = none) (fni : a ∉ ι) (fnp : Pr a = none) (fno : ∀ j e, ρ[j]? = some (.own e) → α j ≠ a) : Rel p Pr ρ (S ++ [c]) F (ι ++ [a]) α σ H ∧ (ι ++ [a])[S.length]? = some a := by
  have l : LeA ι (ι ++ [a]) := LeA.app _ _
  have at_ : (ι ++ [a])[S.length]? = some a := by rw [← R.wd.len, List.getElem?_append_right (Nat.le_refl _)]; simp
  have old : ∀ {n : Nat} {b : Addr}, (ι ++ [a])[n]? = some b → ι[n]? = some b ∨ (n = S.length ∧ b = a) := fun {n b} h => by
    by_cases hn : n < ι.length
    · rw [List.getElem?_append_left hn] at h; exact .inl h
    · have : n = S.length := by
        have := (List.getElem?_eq_some_iff.mp h).1
        rw [List.length_append, List.length_singleton, R.wd.len] at this
        rw [R.wd.len] at hn
        omega
      subst this
      rw [at_] at h; cases h; exact .inr ⟨rfl, rfl⟩
  refine ⟨{
    wd := {
      sub := R.wd.sub
      con := fun x d h => let ⟨u, v, h1, h2, h3⟩ := R.wd.con x d h; ⟨u, v, h1, h2, h3.le (LeH.refl _) l⟩
      len := by rw [List.length_append, List.length_append, R.wd.len]; rfl
      nd := List.nodup_append.mpr ⟨R.wd.nd, List.nodup_cons.mpr ⟨List.not_mem_nil, List.nodup_nil⟩, fun x hx y hy z => by
        have : y = a := by simpa using hy
        rw [z, this] at hx; exact fni hx⟩
      cell := fun n c b h1 h2 => by
        rcases old h2 with h2 | ⟨rfl, rfl⟩
        · have hl : n < S.length := by rw [← R.wd.len]; exact (List.getElem?_eq_some_iff.mp h2).1
          rw [List.getElem?_append_left hl] at h1
          obtain ⟨q1, q2⟩ := R.wd.cell n c b h1 h2
          exact ⟨q1, q2.le (LeH.refl _) l rfl⟩
        · rw [List.getElem?_append_right (Nat.le_refl _)] at h1
          simp at h1; subst h1
          exact ⟨fnf, frep.le (LeH.refl _) l rfl⟩
      prot := fun b u h => by
        obtain ⟨q1, q2, q3⟩ := R.wd.prot b u h
        refine ⟨q1, q2, fun n c h2 h1 => ?_⟩
        rcases old h2 with h2 | ⟨rfl, rfl⟩
        · have hl : n < S.length := by rw [← R.wd.len]; exact (List.getElem?_eq_some_iff.mp h2).1
          rw [List.getElem?_append_left hl] at h1
          exact q3 n c h2 h1
        · rw [fnp] at h; cases h }
    fz := fun i d h => let ⟨v, h1, h2⟩ := R.fz i d h; ⟨v, h1, h2.le (LeH.refl _) l⟩
    own := fun i d h => by
      obtain ⟨h1, h2, h3, h4, h5⟩ := R.own i d h
      refine ⟨h1, h2, fun z => ?_, h4.le (LeH.refl _) l rfl, h5⟩
      rcases List.mem_append.mp z with z | z
      · exact h3 z
      · exact fno i d h (by simpa using z)
    lng := R.lng
    inj := R.inj }, at_⟩
theorem Rel.addCell (R : Rel p Pr ρ S F ι α σ H) (f : Fr p Pr ρ F ι α H a d) : Rel p Pr ρ (S ++ [.con d]) F (ι ++ [a]) α σ H ∧ (ι ++ [a])[S.length]? = some a := R.addC (c := .con d) f.rep f.nf f.ni f.np f.no
/-- a thing of the store changed -/
theorem Rel.put {n : Nat} {c : Cell} (R : Rel p Pr ρ S F ι α σ H) (hn : ι[n]? = some a) (hp : Pr a = none) (hc : CellRep p F ι (upd H a o) a c) : Rel p Pr ρ (S.set n c) F ι α σ (upd H a o) := by
  have hl : n < S.length := by rw [← R.wd.len]; exact (List.getElem?_eq_some_iff.mp hn).1
  obtain ⟨f1, _⟩ := R.wd.cell n S[n] a (List.getElem?_eq_getElem hl) hn
  have ne : ∀ {m : Nat} {b : Addr}, ι[m]? = some b → m ≠ n → b ≠ a := fun {m b} h z e => by
    subst e
    obtain ⟨l1, e1⟩ := List.getElem?_eq_some_iff.mp h
    obtain ⟨l2, e2⟩ := List.getElem?_eq_some_iff.mp hn
    have pw := List.pairwise_iff_getElem.mp R.wd.nd
    rcases Nat.lt_or_gt_of_ne z with y | y
    · exact pw _ _ l1 l2 y (e1.trans e2.symm)
    · exact pw _ _ l2 l1 y (e2.trans e1.symm)
  have mem : a ∈ ι := List.mem_of_getElem? hn
  exact {
    wd := {
      sub := fun b u e => by
        have hb : b ≠ a := fun z => by rw [z, f1] at e; cases e
        rcases R.wd.sub b u e with h | ⟨k, ob, h⟩
        · exact .inl (by rw [upd_ne hb]; exact h)
        · exact .inr ⟨k, ob, by rw [upd_ne hb]; exact h⟩
      con := R.wd.con
      len := by rw [List.length_set]; exact R.wd.len
      nd := R.wd.nd
      cell := fun m c' b h1 h2 => by
        by_cases hm : m = n
        · subst hm
          rw [hn] at h2; cases h2
          rw [List.getElem?_set_self hl] at h1; cases h1
          exact ⟨f1, hc⟩
        · rw [List.getElem?_set_ne (fun z => hm z.symm)] at h1
          obtain ⟨q1, q2⟩ := R.wd.cell m c' b h1 h2
          exact ⟨q1, q2.le (LeH.refl _) (LeA.refl _) (upd_ne (ne h2 hm))⟩
      prot := fun b u h => by
        obtain ⟨q1, q2, q3⟩ := R.wd.prot b u h
        have hb : b ≠ a := fun z => by rw [z, hp] at h; cases h
        refine ⟨by rw [upd_ne hb]; exact q1, q2, fun m c' h2 h1 => ?_⟩
        have hm : m ≠ n := fun z => by subst z; rw [hn] at h2; cases h2; exact hb rfl
        rw [List.getElem?_set_ne (fun z => hm z.symm)] at h1
        exact q3 m c' h2 h1 }
    fz := R.fz
    own := fun i d h => by
      obtain ⟨h1, h2, h3, h4, h5⟩ := R.own i d h
      exact ⟨h1, h2, h3, h4.le (LeH.refl _) (LeA.refl _) (upd_ne fun z => h3 (by rw [z]; exact mem)), h5⟩
    lng := R.lng
    inj := R.inj }
theorem getElem?_set_slot {ρ : Env'} {i j : Nat} {x y : Slot} (h : (ρ.set i x)[j]? = some y) : (i = j ∧ i < ρ.length ∧ y = x) ∨ (i ≠ j ∧ ρ[j]? = some y) := by
  by_cases e : i = j
  · subst e
    by_cases hl : i < ρ.length
    · rw [List.getElem?_set_self hl] at h; cases h; exact .inl ⟨rfl, hl, rfl⟩
    · rw [List.getElem?_eq_none (by rw [List.length_set]; omega)] at h; cases h
  · rw [List.getElem?_set_ne e] at h; exact .inr ⟨e, h⟩
/-- a name's own container changed -/
theorem Rel.putOwn {i : Nat} {d' : D} (R : Rel p Pr ρ S F ι α σ H) (hi : ρ[i]? = some (.own d')) (hc : CRep p.K F ι (upd H (α i) o) (α i) d) : Rel p Pr (ρ.set i (.own d)) S F ι α σ (upd H (α i) o) := by
  obtain ⟨k1, k2, k3, k4, k5⟩ := R.own i d' hi
  exact {
    wd := {
      sub := fun b u e => by
        have hb : b ≠ α i := fun z => by rw [z, k2] at e; cases e
        rcases R.wd.sub b u e with h | ⟨k, ob, h⟩
        · exact .inl (by rw [upd_ne hb]; exact h)
        · exact .inr ⟨k, ob, by rw [upd_ne hb]; exact h⟩
      con := R.wd.con
      len := R.wd.len
      nd := R.wd.nd
      cell := fun m c' b h1 h2 => by
        obtain ⟨q1, q2⟩ := R.wd.cell m c' b h1 h2
        exact ⟨q1, q2.le (LeH.refl _) (LeA.refl _) (upd_ne fun z => k3 (by rw [← z]; exact List.mem_of_getElem? h2))⟩
      prot := fun b u h => by
        obtain ⟨q1, q2, q3⟩ := R.wd.prot b u h
        exact ⟨by rw [upd_ne fun z => by rw [z, k5] at h; cases h]; exact q1, q2, q3⟩ }
    fz := fun j e h => by
      rcases getElem?_set_slot h with ⟨_, _, z⟩ | ⟨_, h⟩
      · cases z
      · exact R.fz j e h
    own := fun j e h => by
      rcases getElem?_set_slot h with ⟨z, _, w⟩ | ⟨ne, h⟩
      · subst z; cases w
        exact ⟨k1, k2, k3, hc, k5⟩
      · obtain ⟨h1, h2, h3, h4, h5⟩ := R.own j e h
        exact ⟨h1, h2, h3, h4.le (LeH.refl _) (LeA.refl _) (upd_ne fun z => ne (R.inj _ _ _ _ h hi z).symm), h5⟩
    lng := by rw [List.length_set]; exact R.lng
    inj := fun j l e e' h1 h2 z => by
      rcases getElem?_set_slot h1 with ⟨z1, _, _⟩ | ⟨_, h1⟩
      · rcases getElem?_set_slot h2 with ⟨z2, _, _⟩ | ⟨_, h2⟩
        · rw [← z1, ← z2]
        · subst z1; exact R.inj _ _ _ _ hi h2 z
      · rcases getElem?_set_slot h2 with ⟨z2, _, _⟩ | ⟨_, h2⟩
        · subst z2; exact R.inj _ _ _ _ h1 hi z
        · exact R.inj _ _ _ _ h1 h2 z }
/-- a name gets a new container as its own -/
theorem Rel.setOwn {i : Nat} (R : Rel p Pr ρ S F ι α σ H) (f : Fr p Pr ρ F ι α H a d) : Rel p Pr (ρ.set i (.own d)) S F ι (fun j => if j = i then a else α j) (σ.set i (some (.ref a))) H where
  wd := R.wd
  fz := fun j e h => by
    rcases getElem?_set_slot h with ⟨_, _, z⟩ | ⟨ne, h⟩
    · cases z
    · rw [List.getElem?_set_ne ne]; exact R.fz j e h
  own := fun j e h => by
    rcases getElem?_set_slot h with ⟨z, hl, w⟩ | ⟨ne, h⟩
    · subst z; cases w
      rw [if_pos rfl, List.getElem?_set_self (Nat.lt_of_lt_of_le hl R.lng)]
      exact ⟨rfl, f.nf, f.ni, f.rep, f.np⟩
    · rw [List.getElem?_set_ne ne, if_neg (fun z => ne z.symm)]; exact R.own j e h
  lng := by rw [List.length_set, List.length_set]; exact R.lng
  inj := fun j l e e' h1 h2 z => by
    rcases getElem?_set_slot h1 with ⟨z1, _, _⟩ | ⟨n1, h1⟩
    · rcases getElem?_set_slot h2 with ⟨z2, _, _⟩ | ⟨n2, h2⟩
      · rw [← z1, ← z2]
      · rw [if_pos z1.symm, if_neg (fun y => n2 y.symm)] at z
        exact absurd z.symm (f.no l _ h2)
    · rcases getElem?_set_slot h2 with ⟨z2, _, _⟩ | ⟨n2, h2⟩
      · rw [if_pos z2.symm, if_neg (fun y => n1 y.symm)] at z
        exact absurd z (f.no j _ h1)
      · rw [if_neg (fun y => n1 y.symm), if_neg (fun y => n2 y.symm)] at z
        exact R.inj _ _ _ _ h1 h2 z
/-- a name gets a value -/
theorem Rel.setFz {i : Nat} {v : V} (R : Rel p Pr ρ S F ι α σ H) (r : Rep p.K F ι v d) : Rel p Pr (ρ.set i (.fz d)) S F ι α (σ.set i (some v)) H where
  wd := R.wd
  fz := fun j e h => by
    rcases getElem?_set_slot h with ⟨z, hl, w⟩ | ⟨ne, h⟩
    · subst z; cases w
      exact ⟨v, by rw [List.getElem?_set_self (Nat.lt_of_lt_of_le hl R.lng)], r⟩
    · rw [List.getElem?_set_ne ne]; exact R.fz j e h
  own := fun j e h => by
    rcases getElem?_set_slot h with ⟨_, _, z⟩ | ⟨ne, h⟩
    · cases z
    · rw [List.getElem?_set_ne ne]; exact R.own j e h
  lng := by rw [List.length_set, List.length_set]; exact R.lng
  inj := fun j l e e' h1 h2 z => by
    rcases getElem?_set_slot h1 with ⟨_, _, z1⟩ | ⟨n1, h1⟩
    · cases z1
    · rcases getElem?_set_slot h2 with ⟨_, _, z2⟩ | ⟨n2, h2⟩
      · cases z2
      · exact R.inj _ _ _ _ h1 h2 z
/-- less is protected -/
theorem Rel.weak {Pr' : Hp} (R : Rel p Pr' ρ S F ι α σ H) (h : ∀ b o, Pr b = some o → Pr' b = some o) : Rel p Pr ρ S F ι α σ H where
  wd := { sub := R.wd.sub, con := R.wd.con, len := R.wd.len, nd := R.wd.nd, cell := R.wd.cell, prot := fun b u q => R.wd.prot b u (h b u q) }
  fz := R.fz
  own := fun i d k => by
    obtain ⟨h1, h2, h3, h4, h5⟩ := R.own i d k
    refine ⟨h1, h2, h3, h4, ?_⟩
    cases q : Pr (α i) with
    | none => rfl
    | some u => rw [h _ _ q] at h5; cases h5
  lng := R.lng
  inj := R.inj
end
section
variable {p : Pg} {N : List Str} {sc : Scope} {fn : Str → Bool} {k : Nat} {X : Cx} {G : Fns} {ρ : Env'} {S : Store} {e ea eb ec : Expr} {pos : Pos} {a b c : Ex}
theorem fe_of_fn {r : Option (D × Store)} (h : FN p X ρ S e r) : FE p X ρ S e r := by
  intro Pr F ι α σ H R d S' er Q q
  refine h Pr F ι α σ H R d S' er Q fun c F' ι' H' R' l m f => ?_
  obtain ⟨F2, R2, l2, r2⟩ := R'.freeze f
  exact q _ F2 ι' H' R2 (l.trans l2) m r2
theorem fn_list {es : List Expr} {as : Ar} (ha : FA p X ρ S es (evA G as ρ S)) : FN p X ρ S (.List es pos) (evE G (.list as) ρ S) := by
  intro Pr F ι α σ H R d S' e Q q
  rw [evE] at e
  obtain ⟨⟨us, S1⟩, e1, e⟩ := Option.bind_eq_some_iff.mp e
  split at e
  · rename_i hz
    cases e
    refine wE_of (pe_lst paW) (ha Pr F ι α σ H R _ _ e1 _ fun vs F' ι' H' R' l m rs => ⟨by rw [rs.length]; exact hz, fun c hc => ?_⟩)
    obtain ⟨R2, f2⟩ := R'.alloc (d := .lst us) (o := .lst vs) hc fun G g => ⟨vs, g, rs⟩
    exact q c F' ι' _ R2 l m f2
  · cases e
theorem fn_dnew {t : Bool} : FN p X ρ S (.Dict [] [] pos) (evE G (.dnew t) ρ S) := by
  intro Pr F ι α σ H R d S' e Q q
  rw [evE] at e
  cases e
  cases t with
  | true =>
    refine wE_of pe_dnewT fun c hc => ?_
    obtain ⟨R2, f2⟩ := R.alloc (d := .dT []) (o := .dT []) hc fun G g => ⟨[], g, rfl, .nil⟩
    exact q c F ι _ R2 (LeH.refl _) (LeA.refl _) f2
  | false =>
    refine wE_of pe_dnewK fun c hc => ?_
    obtain ⟨R2, f2⟩ := R.alloc (d := .dK []) (o := .dK []) hc fun G g => ⟨[], g, rfl, .nil⟩
    exact q c F ι _ R2 (LeH.refl _) (LeA.refl _) f2
/-- a slice's bound -/
def FO (p : Pg) (X : Cx) (ρ : Env') (o : Option Expr) (ev : Store → Option (List D × Store)) : Prop := ∃ t, PO X o t ∧ ∀ {S : Store} {Pr F ι α σ H}, Rel p Pr ρ S F ι α σ H → ∀ {ds S'}, ev S = some (ds, S') → ∀ {r}, ixO ds = some r →
  ∀ Q : Option Int → Hp → Prop, (∀ F' ι' H', Rel p Pr ρ S' F' ι' α σ H' → LeH F F' → LeA ι ι' → Q r H') → t σ H Q
theorem fo_none : FO p X ρ none (evA G .nil ρ) := by
  refine ⟨_, po_none, fun {S Pr F ι α σ H} R ds S' e r er Q q => ?_⟩
  rw [evA] at e; cases e; cases er
  exact q F ι H R (LeH.refl _) (LeA.refl _)
theorem fo_some (h : ∀ S, FE p X ρ S e (evE G a ρ S)) : FO p X ρ (some e) (evA G (.cons a .nil) ρ) := by
  refine ⟨_, po_some (peW (e := e)), fun {S Pr F ι α σ H} R ds S' e r er Q q => ?_⟩
  rw [evA] at e
  obtain ⟨⟨x1, S1⟩, h1, h2⟩ := Option.bind_eq_some_iff.mp e
  obtain ⟨⟨x2, S2⟩, h3, h4⟩ := Option.map_eq_some_iff.mp h2
  rw [evA] at h3; cases h3
  cases h4
  cases x1 <;> try cases er
  exact h S Pr F ι α σ H R _ _ h1 _ fun v F' ι' H' R' l m rv => by cases rv; exact ⟨_, rfl, q F' ι' H' R' l m⟩
theorem fe_sl {eo : Expr} {lo hi : Option Expr} {al ah : Ar} {p2 : Pos} (g : Good p N sc fn k X) (ha : FH p X ρ S eo (hOf a ρ S (evE G a ρ S))) (hl : FO p X ρ lo (evA G al ρ)) (hh : FO p X ρ hi (evA G ah ρ)) :
    FE p X ρ S (.Subscript eo (.Slice lo hi none p2) pos) (evE G (.sl a al ah) ρ S) := by
  intro Pr F ι α σ H R d S' e Q q
  rw [evE] at e
  obtain ⟨⟨h1, S1⟩, e1, e⟩ := Option.bind_eq_some_iff.mp e
  obtain ⟨⟨y, S2⟩, e2, e⟩ := Option.bind_eq_some_iff.mp e
  obtain ⟨⟨z, S3⟩, e3, e⟩ := Option.bind_eq_some_iff.mp e
  obtain ⟨u, e4, e⟩ := Option.bind_eq_some_iff.mp e
  obtain ⟨lo', e7, e⟩ := Option.bind_eq_some_iff.mp e
  obtain ⟨hi', e8, e⟩ := Option.bind_eq_some_iff.mp e
  obtain ⟨d', e5, e6⟩ := Option.map_eq_some_iff.mp e
  cases e6
  obtain ⟨tl, pl, hl⟩ := hl
  obtain ⟨th, ph, hh⟩ := hh
  have hK := g.K
  have run : ∀ r, SlR X r → (∀ x F3 ι3 H3, Rel p Pr ρ S3 F3 ι3 α σ H3 → LeH F F3 → LeA ι ι3 → HRep p F3 ι3 α x h1 → r x lo' hi' H3 Q) → wE X (.Subscript eo (.Slice lo hi none p2) pos) σ H Q := fun r hr hq =>
    wE_of (pe_slice hr peW pl ph) (ha Pr F ι α σ H R _ _ e1 _ fun x F1 ι1 H1 R1 l1 m1 r1 => hl R1 e2 e7 _ fun F2 ι2 H2 R2 l2 m2 => hh R2 e3 e8 _ fun F3 ι3 H3 R3 l3 m3 =>
      hq x F3 ι3 H3 R3 ((l1.trans l2).trans l3) ((m1.trans m2).trans m3) ((r1.le l2 m2).le l3 m3))
  have fin : ∀ x F3 ι3 H3, Rel p Pr ρ S3 F3 ι3 α σ H3 → LeH F F3 → LeA ι ι3 → HRep p F3 ι3 α x h1 → rSlL X.K x lo' hi' H3 Q ∨ rSlA X.K x lo' hi' H3 Q ∨ rSlS x lo' hi' H3 Q := fun x F3 ι3 H3 R3 l m r => by
    have cw := cw_of R3 r e4
    refine sl_ok g.pg R3.wd.sub cw.cv ?_ e5 fun z F4 H4 gr rz => q z F4 ι3 H4 (R3.grow gr) (l.trans gr.f) m rz
    cases u <;> first | exact .inl (cw.rep rfl) | exact .inr (fun _ h => nomatch h)
  exact run _ (SlR.or sl_list (SlR.or sl_tupA sl_str)) fin
theorem fe_rev {kk : Nat} {p1 p2 p3 : Pos} (g : Good p N sc fn k X) (ha : FH p X ρ S ea (hOf a ρ S (evE G a ρ S))) : FE p X ρ S (.Subscript ea (.Slice none none (some (.UnaryOp .USub (.Constant (.int 1) kk p1) p2)) p3) pos) (evE G (.rev a) ρ S) := by
  intro Pr F ι α σ H R d S' e Q q
  rw [evE] at e
  obtain ⟨⟨h1, S1⟩, e1, e⟩ := Option.bind_eq_some_iff.mp e
  obtain ⟨u, e4, e⟩ := Option.bind_eq_some_iff.mp e
  cases u <;> try cases e
  refine wE_of (pe_revL peW) (ha Pr F ι α σ H R _ _ e1 _ fun x F1 ι1 H1 R1 l1 m1 r1 => ?_)
  obtain ⟨c, vs, hx, q1, q2⟩ := cv_of R1 r1 e4
  refine ⟨c, vs, hx, by rw [g.K]; exact q1, fun y hy => ?_⟩
  exact newL R1.wd.sub q2.rev hy fun z F2 H2 gr rz => q z F2 ι1 H2 (R1.grow gr) (l1.trans gr.f) m1 rz
structure FldOk (p : Pg) (G : Fns) : Prop where
  fld : ∀ C f Ca, G.fld C f = true → p.cls C = some Ca → Cls p.K Ca ∧ NoAttr p.K Ca f
theorem fs_lookup {K : PySem.W.Frag} {F : Hp} {ι : List Addr} {f : Str} {d : D} : ∀ {fv : List (Str × V)} {fs : List (Str × D)}, fv.map (·.1) = fs.map (·.1) → Reps K F ι (fv.map (·.2)) (fs.map (·.2)) → fs.lookup f = some d → ∃ v, fv.lookup f = some v ∧ Rep K F ι v d
  | [], [], _, _, h => by cases h
  | [], _ :: _, e, _, _ => by cases e
  | _ :: _, [], e, _, _ => by cases e
  | (g, v) :: fv, (g', d') :: fs, e, r, h => by
    simp only [List.map_cons, List.cons.injEq] at e
    obtain ⟨e1, e2⟩ := e
    subst e1
    cases r with
    | cons r1 r2 =>
      simp only [List.lookup_cons] at h ⊢
      cases hb : f == g with
      | true => rw [hb] at h; cases h; exact ⟨v, rfl, r1⟩
      | false => rw [hb] at h; exact fs_lookup e2 r2 h
theorem fs_none {f : Str} : ∀ {fv : List (Str × V)} {fs : List (Str × D)}, fv.map (·.1) = fs.map (·.1) → (fs.lookup f).isNone = true → fv.lookup f = none
  | [], [], _, _ => rfl
  | [], _ :: _, e, _ => by cases e
  | _ :: _, [], e, _ => by cases e
  | (g, v) :: fv, (g', d') :: fs, e, h => by
    simp only [List.map_cons, List.cons.injEq] at e
    obtain ⟨e1, e2⟩ := e
    subst e1
    simp only [List.lookup_cons] at h ⊢
    cases hb : f == g with
    | true => rw [hb] at h; cases h
    | false => rw [hb] at h; exact fs_none e2 h
theorem fe_fld {f : Str} (g : Good p N sc fn k X) (gf : FldOk p G) (hb : attributeBase ea f X.env (eval ea X.env) = eval ea X.env) (ha : FE p X ρ S ea (evE G a ρ S)) : FE p X ρ S (.Attribute ea f pos) (evE G (.fld a f) ρ S) := by
  intro Pr F ι α σ H R d S' e Q q
  rw [evE] at e
  obtain ⟨⟨u, S1⟩, e1, e⟩ := Option.bind_eq_some_iff.mp e
  cases u <;> try cases e
  rename_i n
  simp only at e
  split at e
  · rename_i C fs hc
    split at e
    · rename_i hf
      obtain ⟨d', e2, e3⟩ := Option.map_eq_some_iff.mp e
      cases e3
      refine wE_of (pe_fld peW hb) (ha Pr F ι α σ H R _ _ e1 _ fun x F1 ι1 H1 R1 l1 m1 r1 => ?_)
      obtain ⟨b, hb1, _, Ca, dx, fv, h1, h2, h3, h4⟩ := R1.wd.at hc
      cases r1 with
      | ref hn =>
        rw [hb1] at hn; cases hn
        obtain ⟨v, e5, rv⟩ := fs_lookup h3 h4 e2
        obtain ⟨c1, c2⟩ := gf.fld C f Ca hf h1
        rw [← g.K] at c1 c2
        exact ⟨b, Ca, dx, fv, v, rfl, h2, c1, c2, e5, q v F1 ι1 H1 R1 l1 m1 rv⟩
    · cases e
  · cases e
theorem isD_of {F : Hp} {ι : List Addr} {H : Hp} {x : V} {u : D} (h : CV p F ι H x u) (d : isDct (some u) = true) : ∃ a, x = .ref a ∧ IsD H a := by
  cases u <;> try cases d
  · obtain ⟨a, kvs, rfl, q, _⟩ := h; exact ⟨a, rfl, .inl ⟨kvs, q⟩⟩
  · obtain ⟨a, kvs, rfl, q, _⟩ := h; exact ⟨a, rfl, .inr ⟨kvs, q⟩⟩
theorem fe_get {apos : Pos} (g : Good p N sc fn k X) (m : M1 X ea "get" apos eb pos) (ha : FH p X ρ S ea (hOf a ρ S (evE G a ρ S))) (hb : ∀ S, FE p X ρ S eb (evE G b ρ S)) : FE p X ρ S (.Call (.Attribute ea "get" apos) [eb] [] pos) (evE G (.get a b) ρ S) := by
  intro Pr F ι α σ H R d S' e Q q
  rw [evE] at e
  obtain ⟨⟨h1, S1⟩, e1, e⟩ := Option.bind_eq_some_iff.mp e
  split at e
  · rename_i hd
    obtain ⟨⟨y, S2⟩, e2, e⟩ := Option.bind_eq_some_iff.mp e
    obtain ⟨u, e3, e⟩ := Option.bind_eq_some_iff.mp e
    obtain ⟨o, e4, e5⟩ := Option.map_eq_some_iff.mp e
    cases e5
    have hu : X.A.units + 1 < cLine := by have := g.units; omega
    refine wE_of (pe_dget1 hu peW peW m) (ha Pr F ι α σ H R _ _ e1 _ fun x F1 ι1 H1 R1 l1 m1 r1 => ?_)
    cases hc : cont ρ S1 h1 with
    | none => rw [hc] at hd; cases hd
    | some u0 =>
    rw [hc] at hd
    obtain ⟨c, rfl, hI⟩ := isD_of (cv_of R1 r1 hc) hd
    refine ⟨c, rfl, hI, hb S1 Pr F1 ι1 α σ H1 R1 _ _ e2 _ fun y' F2 ι2 H2 R2 l2 m2 r2 => ?_⟩
    have hy : ∀ n, y ≠ .ref n := fun n z => by subst z; cases u <;> simp [dget, keyK, keyT] at e4
    obtain ⟨a', o', ea', g1, _, g3⟩ := dget_ok (cv_of R2 (r1.le l2 m2) e3) (.of_rep R2.wd.sub r2 hy) e4
    cases ea'
    refine ⟨o', g1, ?_⟩
    rcases g3 with ⟨rfl, rfl⟩ | ⟨d', v', rfl, rfl, r3⟩
    · exact q _ F2 ι2 H2 R2 (l1.trans l2) (m1.trans m2) .non
    · exact q _ F2 ι2 H2 R2 (l1.trans l2) (m1.trans m2) r3
  · cases e
theorem fe_getd {apos : Pos} (g : Good p N sc fn k X) (m : M2 X ea "get" apos eb ec pos) (ha : FH p X ρ S ea (hOf a ρ S (evE G a ρ S))) (hb : ∀ S, FE p X ρ S eb (evE G b ρ S)) (hc : ∀ S, FE p X ρ S ec (evE G c ρ S)) : FE p X ρ S (.Call (.Attribute ea "get" apos) [eb, ec] [] pos) (evE G (.getd a b c) ρ S) := by
  intro Pr F ι α σ H R d S' e Q q
  rw [evE] at e
  obtain ⟨⟨h1, S1⟩, e1, e⟩ := Option.bind_eq_some_iff.mp e
  split at e
  · rename_i hd
    obtain ⟨⟨y, S2⟩, e2, e⟩ := Option.bind_eq_some_iff.mp e
    obtain ⟨⟨w, S3⟩, e6, e⟩ := Option.bind_eq_some_iff.mp e
    obtain ⟨u, e3, e⟩ := Option.bind_eq_some_iff.mp e
    obtain ⟨o, e4, e5⟩ := Option.map_eq_some_iff.mp e
    cases e5
    have hu : X.A.units + 1 < cLine := by have := g.units; omega
    refine wE_of (pe_dget2 hu peW peW peW m) (ha Pr F ι α σ H R _ _ e1 _ fun x F1 ι1 H1 R1 l1 m1 r1 => ?_)
    cases hcc : cont ρ S1 h1 with
    | none => rw [hcc] at hd; cases hd
    | some u0 =>
    rw [hcc] at hd
    obtain ⟨cc, rfl, hI⟩ := isD_of (cv_of R1 r1 hcc) hd
    refine ⟨cc, rfl, hI, hb S1 Pr F1 ι1 α σ H1 R1 _ _ e2 _ fun y' F2 ι2 H2 R2 l2 m2 r2 => hc S2 Pr F2 ι2 α σ H2 R2 _ _ e6 _ fun w' F3 ι3 H3 R3 l3 m3 r3 => ?_⟩
    have hy : ∀ n, y ≠ .ref n := fun n z => by subst z; cases u <;> simp [dget, keyK, keyT] at e4
    obtain ⟨a', o', ea', g1, _, g3⟩ := dget_ok (cv_of R3 ((r1.le l2 m2).le l3 m3) e3) (.of_rep R3.wd.sub (r2.le l3 m3) hy) e4
    cases ea'
    refine ⟨o', g1, ?_⟩
    rcases g3 with ⟨rfl, rfl⟩ | ⟨d', v', rfl, rfl, r4⟩
    · exact q _ F3 ι3 H3 R3 ((l1.trans l2).trans l3) ((m1.trans m2).trans m3) r3
    · exact q _ F3 ι3 H3 R3 ((l1.trans l2).trans l3) ((m1.trans m2).trans m3) r4
  · cases e
theorem fe_mref (ha : FN p X ρ S ea (evE G a ρ S)) : FE p X ρ S ea (evE G (.mref a) ρ S) := by
  intro Pr F ι α σ H R d S' e Q q
  rw [evE] at e
  obtain ⟨⟨u, S1⟩, e1, e⟩ := Option.bind_eq_some_iff.mp e
  refine ha Pr F ι α σ H R _ _ e1 _ fun c F1 ι1 H1 R1 l1 m1 f1 => ?_
  obtain ⟨R2, at2⟩ := R1.addCell f1
  cases u <;> simp only [newRef] at e <;> first
    | (cases e; exact q _ F1 (ι1 ++ [c]) H1 R2 l1 (m1.trans (LeA.app _ _)) (.ref at2))
    | (cases e)
end
end Z

set_option Elab.async false
set_option linter.all false
set_option maxRecDepth 100000
set_option maxHeartbeats 4000000
namespace Z
open PySem PySem.Spec PyProof.Rows L2

/-! # what is walked -/
def NoFz (X : Cx) (d : Addr) : Prop := ∀ o' u', X.H_0 d ≠ some (.frz o' u')
def Unl (X : Cx) (P : Hp → Prop) (H : Hp) : Prop := P H ∨ ∃ d od u, H d = some (.frz od u) ∧ NoFz X d ∧ P (upd H d u)
def wI (X : Cx) (tg iter : Expr) : TI := fun σ H R => ∀ pins s, Inv X pins σ H s → wpAny (model X.prog X.w) X.A (eval iter X.env) (fun v s1 => wpAny (model X.prog X.w) X.A (pyIter v) (PIE X pins σ tg R) X.xe s1) X.xe s
section
variable {X : Cx} {e tg iter : Expr} {st : Stmt} {σ : L2.St} {H : Hp}
theorem piW : PI X tg iter (wI X tg iter) := ⟨fun pins s _ _ _ I h => h pins s I⟩
theorem wI_of {t : TI} {R : L2.It → Hp → Prop} (h : PI X tg iter t) (q : t σ H R) : wI X tg iter σ H R := fun pins s I => h.run pins s σ H R I q
theorem wE_lock {Q : VK} (h : wE X e σ H fun x H1 => Q x H1 ∨ ∃ d u, H1 d = some u ∧ Mut (some u) ∧ ∀ od, NoFz X d → Q x (upd H1 d (.frz od u))) : wE X e σ H Q := by
  intro pins s I
  refine thn (h pins s I) fun v s1 ⟨x, H1, I1, r, q⟩ => ?_
  rcases q with q | ⟨d, u, hd, mu, q⟩
  · exact ⟨x, H1, I1, r, q⟩
  · obtain ⟨od, I2⟩ := I1.lock hd mu
    exact ⟨x, _, I2, r, q od (I1.nofrz hd mu)⟩
theorem wE_unl {Q : VK} (h : wE X e σ H fun x H1 => Unl X (Q x) H1) : wE X e σ H Q := by
  intro pins s I
  refine thn (h pins s I) fun v s1 ⟨x, H1, I1, r, q⟩ => ?_
  rcases q with q | ⟨d, od, u, hd, nf, q⟩
  · exact ⟨x, H1, I1, r, q⟩
  · exact ⟨x, _, I1.unlock hd nf, r, q⟩
theorem wS_unl {D : Ends} (h : wS X st ⟨fun σ' => Unl X (D.nx σ'), fun v => Unl X (D.rt v), fun σ' => Unl X (D.bk σ'), fun σ' => Unl X (D.ct σ')⟩ σ H) : wS X st D σ H := by
  intro pins s I
  refine thn (h pins s I) fun fl s1 q => ?_
  cases fl with
  | next =>
    obtain ⟨σ', H', I2, q | ⟨d, od, u, hd, nf, q⟩⟩ := q
    · exact ⟨σ', H', I2, q⟩
    · exact ⟨σ', _, I2.unlock hd nf, q⟩
  | brk =>
    obtain ⟨σ', H', I2, q | ⟨d, od, u, hd, nf, q⟩⟩ := q
    · exact ⟨σ', H', I2, q⟩
    · exact ⟨σ', _, I2.unlock hd nf, q⟩
  | cont =>
    obtain ⟨σ', H', I2, q | ⟨d, od, u, hd, nf, q⟩⟩ := q
    · exact ⟨σ', H', I2, q⟩
    · exact ⟨σ', _, I2.unlock hd nf, q⟩
  | ret v =>
    obtain ⟨x, σ', H', I2, r, q | ⟨d, od, u, hd, nf, q⟩⟩ := q
    · exact ⟨x, σ', H', I2, r, q⟩
    · exact ⟨x, σ', _, I2.unlock hd nf, r, q⟩
end
def lkP (Pr : Hp) : Option (Addr × HO) → Hp
  | none => Pr
  | some (a, o) => upd Pr a o
def LkOk (H : Hp) : Option (Addr × HO) → Prop
  | none => True
  | some (a, o) => H a = some o
structure Walk (p : Pg) (J : L2.It) (F0 : Hp) (ι0 : List Addr) (v : V) (u : D) (xs : List D) (Lk : Option (Addr × HO)) : Prop where
  step : ∀ {i : Nat} {d : D}, xs[i]? = some d → ∀ {Pr S F ι H}, Wd p Pr S F ι H → LeH F0 F → LeA ι0 ι → CV p F ι H v u → LkOk H Lk → J.go i H ∧ ∀ x H', J.yld i H x H' → ∃ F', Grow F H F' H' ∧ Rep p.K F' ι x d
  stop : ∀ {Pr S F ι H}, Wd p Pr S F ι H → LeH F0 F → LeA ι0 ι → CV p F ι H v u → LkOk H Lk → J.stop xs.length H
def FreeOk (X : Cx) (p : Pg) (Pr : Hp) (Lk : Option (Addr × HO)) (lk : Option (Nat × D)) (F : Hp) (ι : List Addr) : Prop :=
  ∀ {ρ' S' F' ι' α' σ' H' S''}, Rel p (lkP Pr Lk) ρ' S' F' ι' α' σ' H' → LeH F F' → LeA ι ι' → freeS S' lk = some S'' → ∃ H3, Rel p Pr ρ' S'' F' ι' α' σ' H3 ∧ (∀ b o, H' b = some o → (∀ ob u, o ≠ .frz ob u) → H3 b = some o) ∧ ∀ P : Hp → Prop, P H3 → Unl X P H'
def FI (p : Pg) (X : Cx) (ρ : Env') (S : Store) (tg iter : Expr) (r : Option (Hd × List D × Store)) : Prop :=
  ∀ Pr F ι α σ H, Rel p Pr ρ S F ι α σ H → ∀ w xs S1, r = some (w, xs, S1) → ∀ S2 lk, lockS ρ S1 w = some (S2, lk) → ∀ R : L2.It → Hp → Prop,
    (∀ J v u Lk F' ι' H', Rel p (lkP Pr Lk) ρ S2 F' ι' α σ H' → LeH F F' → LeA ι ι' → HRep p F' ι' α v w → cont ρ S2 w = some u → Walk p J F' ι' v u xs Lk → FreeOk X p Pr Lk lk F' ι' → (∀ b o, Pr b = some o → lkP Pr Lk b = some o) → R J H') → wI X tg iter σ H R
section
variable {p : Pg} {Pr : Hp} {ρ : Env'} {S : Store} {F : Hp} {ι : List Addr} {α : Nat → Addr} {σ : L2.St} {H : Hp} {a : Addr} {d : D} {o : HO}
theorem Rel.lk (R : Rel p (lkP Pr (some (a, o))) ρ S F ι α σ H) : LkOk H (some (a, o)) := (R.wd.prot a o upd_same).1
theorem Rel.lkOk {Lk : Option (Addr × HO)} (R : Rel p (lkP Pr Lk) ρ S F ι α σ H) : LkOk H Lk := by
  cases Lk with
  | none => trivial
  | some q => exact R.lk
/-- one thing more is protected -/
theorem Rel.guard (R : Rel p Pr ρ S F ι α σ H) (h : H a = some o) (l : F a = none ∨ Loose o) (c : ∀ (n : Nat) (c : Cell), ι[n]? = some a → S[n]? = some c → ∃ d, c = .lck d) (n : ∀ j e, ρ[j]? = some (.own e) → α j ≠ a) : Rel p (upd Pr a o) ρ S F ι α σ H where
  wd := {
    sub := R.wd.sub
    con := R.wd.con
    len := R.wd.len
    nd := R.wd.nd
    cell := R.wd.cell
    prot := fun b u q => by
      by_cases hb : b = a
      · subst hb; rw [upd_same] at q; cases q; exact ⟨h, l, c⟩
      · rw [upd_ne hb] at q; exact R.wd.prot b u q }
  fz := R.fz
  own := fun i d k => by
    obtain ⟨h1, h2, h3, h4, h5⟩ := R.own i d k
    exact ⟨h1, h2, h3, h4, by rw [upd_ne (n i d k)]; exact h5⟩
  lng := R.lng
  inj := R.inj
/-- a kept dict is locked for good -/
theorem Rel.lockF {od : Obj} (R : Rel p Pr ρ S F ι α σ H) (f : F a = some o) (k : (∃ kvs, o = .dK kvs) ∨ ∃ kvs, o = .dT kvs) (h : H a = some o) : Rel p Pr ρ S F ι α σ (upd H a (.frz od o)) where
  wd := {
    sub := fun b u e => by
      by_cases hb : b = a
      · subst hb; rw [f] at e; cases e; exact .inr ⟨k.imp id .inl, od, upd_same⟩
      · rcases R.wd.sub b u e with q | ⟨k', ob, q⟩
        · exact .inl (by rw [upd_ne hb]; exact q)
        · exact .inr ⟨k', ob, by rw [upd_ne hb]; exact q⟩
    con := R.wd.con
    len := R.wd.len
    nd := R.wd.nd
    cell := fun n c b h1 h2 => by
      obtain ⟨q1, q2⟩ := R.wd.cell n c b h1 h2
      exact ⟨q1, q2.le (LeH.refl _) (LeA.refl _) (upd_ne fun z => by rw [z, f] at q1; cases q1)⟩
    prot := fun b u q => by
      obtain ⟨q1, q2, q3⟩ := R.wd.prot b u q
      refine ⟨?_, q2, q3⟩
      rw [upd_ne]
      · exact q1
      · intro z
        subst z
        rw [h] at q1; cases q1
        rcases q2 with q2 | q2
        · rw [f] at q2; cases q2
        · rcases k with ⟨kvs, rfl⟩ | ⟨kvs, rfl⟩ <;> exact q2 }
  fz := R.fz
  own := fun i d k => by
    obtain ⟨h1, h2, h3, h4, h5⟩ := R.own i d k
    exact ⟨h1, h2, h3, h4.le (LeH.refl _) (LeA.refl _) (upd_ne fun z => by rw [z, f] at h2; cases h2), h5⟩
  lng := R.lng
  inj := R.inj
def DObj (K : PySem.W.Frag) (F : Hp) (ι : List Addr) (o : HO) : D → Prop
  | .dK es => ∃ kvs, o = .dK kvs ∧ kvs.map (·.1) = es.map (·.1) ∧ Reps K F ι (kvs.map (·.2)) (es.map (·.2))
  | .dT es => ∃ kvs, o = .dT kvs ∧ kvs.map (·.1) = es.map (·.1) ∧ Reps K F ι (kvs.map (·.2)) (es.map (·.2))
  | _ => False
theorem DObj.le {K : PySem.W.Frag} {F F' : Hp} {ι ι' : List Addr} {u : D} (l : LeH F F') (m : LeA ι ι') (h : DObj K F ι o u) : DObj K F' ι' o u := by
  cases u <;> simp only [DObj] at h ⊢
  · obtain ⟨kvs, h1, h2, h3⟩ := h; exact ⟨kvs, h1, h2, h3.le l m⟩
  · obtain ⟨kvs, h1, h2, h3⟩ := h; exact ⟨kvs, h1, h2, h3.le l m⟩
theorem DObj.c {K : PySem.W.Frag} {u : D} (h : DObj K F ι o u) {G : Hp} (g : G a = some o) : CRep K F ι G a u := by
  cases u <;> simp only [DObj] at h
  · obtain ⟨kvs, rfl, h2, h3⟩ := h; exact ⟨kvs, g, h2, h3⟩
  · obtain ⟨kvs, rfl, h2, h3⟩ := h; exact ⟨kvs, g, h2, h3⟩
theorem DObj.l {K : PySem.W.Frag} {u : D} (h : DObj K F ι o u) {G : Hp} {od : Obj} (g : G a = some (.frz od o)) : LRep K F ι G a u := by
  cases u <;> simp only [DObj] at h
  · obtain ⟨kvs, rfl, h2, h3⟩ := h; exact ⟨od, kvs, g, h2, h3⟩
  · obtain ⟨kvs, rfl, h2, h3⟩ := h; exact ⟨od, kvs, g, h2, h3⟩
theorem DObj.mut {K : PySem.W.Frag} {u : D} (h : DObj K F ι o u) : Mut (some o) ∧ ((∃ kvs, o = .dK kvs) ∨ ∃ kvs, o = .dT kvs) := by
  cases u <;> simp only [DObj] at h
  · obtain ⟨kvs, rfl, h2, h3⟩ := h; exact ⟨trivial, .inl ⟨_, rfl⟩⟩
  · obtain ⟨kvs, rfl, h2, h3⟩ := h; exact ⟨trivial, .inr ⟨_, rfl⟩⟩
theorem dobj_c {K : PySem.W.Frag} {u : D} (d : isDct (some u) = true) {G : Hp} (h : CRep K F ι G a u) : ∃ o, G a = some o ∧ DObj K F ι o u := by
  cases u <;> try cases d
  · obtain ⟨kvs, g, h2, h3⟩ := h; exact ⟨_, g, kvs, rfl, h2, h3⟩
  · obtain ⟨kvs, g, h2, h3⟩ := h; exact ⟨_, g, kvs, rfl, h2, h3⟩
theorem dobj_l {K : PySem.W.Frag} {u : D} (d : isDct (some u) = true) {G : Hp} (h : LRep K F ι G a u) : ∃ od o, G a = some (.frz od o) ∧ DObj K F ι o u := by
  cases u <;> try cases d
  · obtain ⟨od, kvs, g, h2, h3⟩ := h; exact ⟨_, _, g, kvs, rfl, h2, h3⟩
  · obtain ⟨od, kvs, g, h2, h3⟩ := h; exact ⟨_, _, g, kvs, rfl, h2, h3⟩
theorem dobj_f {K : PySem.W.Frag} {u : D} {x : V} (d : isDct (some u) = true) (h : Rep K F ι x u) : ∃ a o, x = .ref a ∧ F a = some o ∧ DObj K F ι o u := by
  cases u <;> try cases d
  · cases h with
    | dK e k r => exact ⟨_, _, rfl, e, _, rfl, k, r⟩
  · cases h with
    | dT e k r => exact ⟨_, _, rfl, e, _, rfl, k, r⟩
/-- what stands behind the locking of a dict -/
def Lkd (X : Cx) (p : Pg) (Pr : Hp) (ρ : Env') (S2 : Store) (F : Hp) (ι : List Addr) (α : Nat → Addr) (σ : L2.St) (w : Hd) (u : D) (lk : Option (Nat × D)) (a : Addr) (od : Obj) (o : HO) (H' : Hp) : Prop :=
  Rel p (lkP Pr (some (a, .frz od o))) ρ S2 F ι α σ H' ∧ cont ρ S2 w = some u ∧ FreeOk X p Pr (some (a, .frz od o)) lk F ι ∧ ∀ b u, Pr b = some u → lkP Pr (some (a, .frz od o)) b = some u
theorem sub_same {od : Obj} (R : Rel p Pr ρ S F ι α σ H) (h : H a = some (.frz od o) ∨ Pr a = none) : ∀ b u, Pr b = some u → lkP Pr (some (a, .frz od o)) b = some u := by
  intro b u q
  by_cases hb : b = a
  · subst hb
    rcases h with h | h
    · rw [(R.wd.prot b u q).1] at h; cases h
      exact upd_same
    · rw [h] at q; cases q
  · show upd Pr a _ b = _
    rw [upd_ne hb]; exact q
theorem free_same {X : Cx} {od : Obj} (R : Rel p Pr ρ S F ι α σ H) (h : H a = some (.frz od o) ∨ Pr a = none) : FreeOk X p Pr (some (a, .frz od o)) none F ι := by
  intro ρ' S' F' ι' α' σ' H' S'' R' _ _ e
  cases e
  exact ⟨H', R'.weak (sub_same R h), fun b o q _ => q, fun P q => .inl q⟩
theorem lock_ok {X : Cx} {w : Hd} {u : D} {x : V} {S2 : Store} {lk : Option (Nat × D)} (R : Rel p Pr ρ S F ι α σ H) (r : HRep p F ι α x w) (c : cont ρ S w = some u) (hd : isDct (some u) = true) (e : lockS ρ S w = some (S2, lk)) :
    ∃ a o, x = .ref a ∧ DObj p.K F ι o u ∧ ((∃ od, H a = some (.frz od o) ∧ Lkd X p Pr ρ S2 F ι α σ w u lk a od o H) ∨ (H a = some o ∧ ∀ od, NoFz X a → Lkd X p Pr ρ S2 F ι α σ w u lk a od o (upd H a (.frz od o)))) := by
  cases w with
  | slot i =>
    simp only [cont] at c
    simp only [lockS] at e
    split at e
    · rename_i xs hi
      rw [hi] at c; cases c; cases hd
    · cases e
  | val v =>
    by_cases hr : ∃ n, v = .ref n
    · obtain ⟨n, rfl⟩ := hr
      cases (show Rep p.K F ι x (.ref n) from r) with
      | @ref n a hn =>
      simp only [cont] at c
      split at c
      · rename_i d' hc
        cases c
        obtain ⟨b, hb, hF, hcr⟩ := R.wd.at hc
        rw [hn] at hb; cases hb
        obtain ⟨o, ho, dob⟩ := dobj_c hd hcr
        refine ⟨a, o, rfl, dob, .inr ⟨ho, fun od nf => ?_⟩⟩
        have hp : Pr a = none := by
          cases q : Pr a with
          | none => rfl
          | some u =>
            obtain ⟨d, z⟩ := (R.wd.prot a u q).2.2 n _ hn hc
            cases z
        have e2 : S2 = S.set n (.lck u) ∧ lk = some (n, u) := by
          simp only [lockS, hc] at e
          cases u <;> try cases hd
          · cases e; exact ⟨rfl, rfl⟩
          · cases e; exact ⟨rfl, rfl⟩
        obtain ⟨rfl, rfl⟩ := e2
        have hl : n < S.length := (List.getElem?_eq_some_iff.mp hc).1
        have R2 := R.put (n := n) (c := .lck u) (o := .frz od o) hn hp (dob.l upd_same)
        refine ⟨R2.guard upd_same (.inr trivial) (fun m c h1 h2 => ?_) (fun j e hj z => ?_), ?_, ?_⟩
        · obtain ⟨l1, e1⟩ := List.getElem?_eq_some_iff.mp h1
          obtain ⟨l2, e2⟩ := List.getElem?_eq_some_iff.mp hn
          have : m = n := by
            rcases Nat.lt_trichotomy m n with y | y | y
            · exact absurd (e1.trans e2.symm) (List.pairwise_iff_getElem.mp R.wd.nd _ _ l1 l2 y)
            · exact y
            · exact absurd (e2.trans e1.symm) (List.pairwise_iff_getElem.mp R.wd.nd _ _ l2 l1 y)
          subst this
          rw [List.getElem?_set_self hl] at h2; cases h2
          exact ⟨_, rfl⟩
        · exact (R.own j e hj).2.2.1 (by rw [z]; exact List.mem_of_getElem? hn)
        · simp only [cont, List.getElem?_set_self hl]
        refine ⟨?_, sub_same R (.inr hp)⟩
        · intro ρ' S' F' ι' α' σ' H' S'' R' l m ef
          simp only [freeS] at ef
          split at ef
          · rename_i dd hcc
            cases ef
            have ha : H' a = some (.frz od o) := R'.lk
            have hp' : ∀ b u, Pr b = some u → upd Pr a (.frz od o) b = some u := fun b u q => by
              rw [upd_ne fun z => by rw [z, hp] at q; cases q]; exact q
            have R3 := R'.weak (Pr := Pr) hp'
            refine ⟨upd H' a o, R3.put (m _ _ hn) hp ((dob.le l m).c upd_same), fun b o' q hn => ?_, fun P q => .inr ⟨a, od, o, ha, nf, q⟩⟩
            rw [upd_ne fun z => by rw [z, ha] at q; cases q; exact hn _ _ rfl]
            exact q
          · cases ef
      · rename_i d' hc
        cases c
        obtain ⟨b, hb, hF, hcr⟩ := R.wd.at hc
        rw [hn] at hb; cases hb
        obtain ⟨od, o, ho, dob⟩ := dobj_l hd hcr
        have e2 : S2 = S ∧ lk = none := by
          simp only [lockS, hc] at e
          cases e; exact ⟨rfl, rfl⟩
        obtain ⟨rfl, rfl⟩ := e2
        refine ⟨a, o, rfl, dob, .inl ⟨od, ho, R.guard ho (.inr trivial) (fun m c h1 h2 => ?_) (fun j e hj z => ?_), ?_, free_same R (.inl ho), sub_same R (.inl ho)⟩⟩
        · obtain ⟨l1, e1⟩ := List.getElem?_eq_some_iff.mp h1
          obtain ⟨l2, e2⟩ := List.getElem?_eq_some_iff.mp hn
          have : m = n := by
            rcases Nat.lt_trichotomy m n with y | y | y
            · exact absurd (e1.trans e2.symm) (List.pairwise_iff_getElem.mp R.wd.nd _ _ l1 l2 y)
            · exact y
            · exact absurd (e2.trans e1.symm) (List.pairwise_iff_getElem.mp R.wd.nd _ _ l2 l1 y)
          subst this
          rw [hc] at h2; cases h2
          exact ⟨_, rfl⟩
        · exact (R.own j e hj).2.2.1 (by rw [z]; exact List.mem_of_getElem? hn)
        · simp only [cont, hc]
      · cases c
    · have hv : ∀ n, v ≠ .ref n := fun n z => hr ⟨n, z⟩
      rw [cont_val hv] at c
      cases c
      have e2 : S2 = S ∧ lk = none := by
        cases u <;> first | exact absurd rfl (hv _) | (simp only [lockS] at e; cases e; exact ⟨rfl, rfl⟩)
      obtain ⟨rfl, rfl⟩ := e2
      obtain ⟨a, o, rfl, hF, dob⟩ := dobj_f hd r
      obtain ⟨mu, kk⟩ := dob.mut
      have nocell : ∀ (n : Nat) (c : Cell), ι[n]? = some a → S2[n]? = some c → ∃ d, c = .lck d := fun n c h1 h2 => by
        have := (R.wd.cell n c a h2 h1).1
        rw [hF] at this; cases this
      have noown : ∀ j e, ρ[j]? = some (.own e) → α j ≠ a := fun j e hj z => by
        have := (R.own j e hj).2.1
        rw [z, hF] at this; cases this
      rcases R.wd.sub a o hF with q | ⟨_, ob, q⟩
      · refine ⟨a, o, rfl, dob, .inr ⟨q, fun od _ => ⟨(R.lockF hF kk q).guard upd_same (.inr trivial) nocell noown, cont_val hv, free_same (R.lockF (od := od) hF kk q) (.inl upd_same), sub_same (R.lockF (od := od) hF kk q) (.inl upd_same)⟩⟩⟩
      · exact ⟨a, o, rfl, dob, .inl ⟨ob, q, R.guard q (.inr trivial) nocell noown, cont_val hv, free_same R (.inl q), sub_same R (.inl q)⟩⟩
end
section
variable {p : Pg} {N : List Str} {sc : Scope} {fn : Str → Bool} {k : Nat} {X : Cx} {G : Fns} {ρ : Env'} {S : Store} {e ea eb ec tg : Expr} {pos : Pos} {a b c : Ex}
theorem free_none {Pr : Hp} {F : Hp} {ι : List Addr} : FreeOk X p Pr none none F ι := by
  intro ρ' S' F' ι' α' σ' H' S'' R' _ _ e
  cases e
  exact ⟨H', R', fun b o q _ => q, fun P q => .inl q⟩
theorem keys_items {κ : Type} {K : PySem.W.Frag} {F : Hp} {ι : List Addr} : ∀ {kvs : List (κ × V)} {es : List (κ × D)}, kvs.map (·.1) = es.map (·.1) → Reps K F ι (kvs.map (·.2)) (es.map (·.2)) → ∀ {i : Nat} {key : κ} {v : V}, kvs[i]? = some (key, v) → ∃ d, es[i]? = some (key, d) ∧ Rep K F ι v d
  | [], _, _, _, _, _, _, h => by simp at h
  | _ :: _, [], e, _, _, _, _, _ => by cases e
  | (k1, v1) :: kvs, (k2, d2) :: es, e, r, i, key, v, h => by
    simp only [List.map_cons, List.cons.injEq] at e
    cases r with
    | cons r1 r2 =>
    cases i with
    | zero => simp at h; obtain ⟨rfl, rfl⟩ := h; exact ⟨d2, by simp [e.1], r1⟩
    | succ i => simpa using keys_items e.2 r2 (i := i) (by simpa using h)
theorem dK1_rep {K : PySem.W.Frag} {F : Hp} {ι : List Addr} (key : Key) : Rep K F ι (kV key) (dK1 key) := by cases key <;> first | exact .int _ | exact .str _
theorem ks_reps {K : PySem.W.Frag} {F : Hp} {ι : List Addr} : ∀ ks : List Key, Reps K F ι (ks.map kV) (ks.map dK1)
  | [] => .nil
  | k :: ks => .cons (dK1_rep k) (ks_reps ks)
theorem walk_lst {F0 : Hp} {ι0 : List Addr} {ad : Addr} {xs : List D} {Lk} (g : X.K = p.K) : Walk p (Itl X.K ad) F0 ι0 (.ref ad) (.lst xs) xs Lk where
  step := fun {i d} hd {Pr S F ι H} W l m cv _ => by
    obtain ⟨a, vs, ea, q1, q2⟩ := cv
    cases ea
    obtain ⟨v, h1, h2⟩ := q2.at hd
    rw [← g] at q1
    refine ⟨⟨vs, v, q1, h1⟩, fun x H' y => ?_⟩
    obtain ⟨rfl, y⟩ := y
    have := y vs q1
    rw [h1] at this; cases this
    exact ⟨F, .refl, h2⟩
  stop := fun {Pr S F ι H} W l m cv _ => by
    obtain ⟨a, vs, ea, q1, q2⟩ := cv
    cases ea
    exact ⟨vs, by rw [g]; exact q1, Nat.le_of_eq q2.length⟩
theorem walk_tup {F0 : Hp} {ι0 : List Addr} {ad : Addr} {xs : List D} {Lk} (g : X.K = p.K) : Walk p (Itt X.K ad) F0 ι0 (.ref ad) (.tup xs) xs Lk where
  step := fun {i d} hd {Pr S F ι H} W l m cv _ => by
    obtain ⟨a, vs, ea, q1, q2⟩ := cv
    cases ea
    obtain ⟨v, h1, h2⟩ := q2.at hd
    have q3 : SqT X.K H ad vs := q1.sq
    refine ⟨⟨vs, v, q3, h1⟩, fun x H' y => ?_⟩
    obtain ⟨rfl, y⟩ := y
    have := y vs q3
    rw [h1] at this; cases this
    exact ⟨F, .refl, h2⟩
  stop := fun {Pr S F ι H} W l m cv _ => by
    obtain ⟨a, vs, ea, q1, q2⟩ := cv
    cases ea
    exact ⟨vs, q1.sq, Nat.le_of_eq q2.length⟩
theorem walk_str {F0 : Hp} {ι0 : List Addr} {x : Str} {v : V} {u : D} {Lk} : Walk p (Its x) F0 ι0 v u (signs x) Lk where
  step := fun {i d} hd {Pr S F ι H} W l m cv _ => by
    unfold signs at hd
    rw [List.getElem?_map] at hd
    obtain ⟨c, h1, h2⟩ := Option.map_eq_some_iff.mp hd
    subst h2
    rw [Array.getElem?_toList] at h1
    refine ⟨?_, fun y H' q => ?_⟩
    · exact (Array.getElem?_eq_some_iff.mp h1).1
    · obtain ⟨rfl, c', e1, e2⟩ := q
      rw [h1] at e1; cases e1
      subst e2
      exact ⟨F, .refl, .str _⟩
  stop := fun {Pr S F ι H} W l m cv _ => by
    show x.cps.size ≤ (signs x).length
    unfold signs
    rw [List.length_map, Array.length_toList]; exact Nat.le_refl _
theorem walk_rng {F0 : Hp} {ι0 : List Addr} {lo : Int} {n : Nat} {v : V} {u : D} {Lk} : Walk p (Itr lo n) F0 ι0 v u (rngD lo n) Lk where
  step := fun {i d} hd {Pr S F ι H} W l m cv _ => by
    unfold rngD at hd
    rw [List.getElem?_map] at hd
    obtain ⟨c, h1, h2⟩ := Option.map_eq_some_iff.mp hd
    subst h2
    obtain ⟨h3, h4⟩ := List.getElem?_eq_some_iff.mp h1
    rw [List.length_range] at h3
    rw [List.getElem_range] at h4
    subst h4
    refine ⟨h3, fun y H' q => ?_⟩
    obtain ⟨rfl, rfl⟩ := q
    exact ⟨F, .refl, .int _⟩
  stop := fun {Pr S F ι H} W l m cv _ => by
    show n ≤ (rngD lo n).length
    unfold rngD
    rw [List.length_map, List.length_range]; exact Nat.le_refl _
theorem walk_keysK {F0 : Hp} {ι0 : List Addr} {ad : Addr} {od : Obj} {kvs : List (Key × V)} {es : List (Key × D)} {v : V} {u : D} (e : kvs.map (·.1) = es.map (·.1)) (r : Reps p.K F0 ι0 (kvs.map (·.2)) (es.map (·.2))) :
    Walk p (Itk ad od kvs) F0 ι0 v u (es.map fun e => dK1 e.1) (some (ad, .frz od (.dK kvs))) where
  step := fun {i d} hd {Pr S F ι H} W l m cv lk => by
    rw [List.getElem?_map] at hd
    obtain ⟨⟨key, d'⟩, h1, h2⟩ := Option.map_eq_some_iff.mp hd
    subst h2
    have hl : kvs.length = es.length := by have := congrArg List.length e; simpa using this
    refine ⟨⟨lk, by rw [hl]; exact (List.getElem?_eq_some_iff.mp h1).1⟩, fun x H' q => ?_⟩
    obtain ⟨rfl, key', v', e1, rfl⟩ := q
    obtain ⟨d2, e2, _⟩ := keys_items e r e1
    rw [h1] at e2; cases e2
    exact ⟨F, .refl, dK1_rep _⟩
  stop := fun {Pr S F ι H} W l m cv lk => by
    refine ⟨lk, ?_⟩
    have hl : kvs.length = es.length := by have := congrArg List.length e; simpa using this
    rw [List.length_map, hl]; exact Nat.le_refl _
theorem walk_keysT {F0 : Hp} {ι0 : List Addr} {ad : Addr} {od : Obj} {kvs : List (List Key × V)} {es : List (List Key × D)} {v : V} {u : D} (e : kvs.map (·.1) = es.map (·.1)) (r : Reps p.K F0 ι0 (kvs.map (·.2)) (es.map (·.2))) :
    Walk p (Itkt ad od kvs) F0 ι0 v u (es.map fun e => dT1 e.1) (some (ad, .frz od (.dT kvs))) where
  step := fun {i d} hd {Pr S F ι H} W l m cv lk => by
    rw [List.getElem?_map] at hd
    obtain ⟨⟨key, d'⟩, h1, h2⟩ := Option.map_eq_some_iff.mp hd
    subst h2
    have hl : kvs.length = es.length := by have := congrArg List.length e; simpa using this
    refine ⟨⟨lk, by rw [hl]; exact (List.getElem?_eq_some_iff.mp h1).1⟩, fun x H' q => ?_⟩
    obtain ⟨rfl, key', v', ad2, e1, rfl, e3⟩ := q
    obtain ⟨d2, e2, _⟩ := keys_items e r e1
    rw [h1] at e2; cases e2
    cases hF : F ad2 with
    | some o =>
      have : o = .tup (key.map kV) := by
        rcases W.sub _ _ hF with q | ⟨_, ob, q⟩
        · rw [e3] at q; cases q; rfl
        · rw [e3] at q; cases q
      subst this
      exact ⟨F, .refl, .tup hF (ks_reps key)⟩
    | none =>
      refine ⟨upd F ad2 (.tup (key.map kV)), ⟨LeH.refl _, LeH.upd hF, fun b o q => ?_⟩, .tup upd_same (ks_reps key)⟩
      by_cases hb : b = ad2
      · subst hb; rw [upd_same] at q; cases q
        exact .inr ⟨e3, .inr ⟨_, rfl⟩⟩
      · rw [upd_ne hb] at q; exact .inl q
  stop := fun {Pr S F ι H} W l m cv lk => by
    refine ⟨lk, ?_⟩
    have hl : kvs.length = es.length := by have := congrArg List.length e; simpa using this
    rw [List.length_map, hl]; exact Nat.le_refl _
theorem walk_items {F0 : Hp} {ι0 : List Addr} {ad : Addr} {od : Obj} {kvs : List (Key × V)} {es : List (Key × D)} {v : V} {u : D} (e : kvs.map (·.1) = es.map (·.1)) (r : Reps p.K F0 ι0 (kvs.map (·.2)) (es.map (·.2))) :
    Walk p (Iti ad od kvs) F0 ι0 v u (es.map fun e => .tup [dK1 e.1, e.2]) (some (ad, .frz od (.dK kvs))) where
  step := fun {i d} hd {Pr S F ι H} W l m cv lk => by
    rw [List.getElem?_map] at hd
    obtain ⟨⟨key, d'⟩, h1, h2⟩ := Option.map_eq_some_iff.mp hd
    subst h2
    have hl : kvs.length = es.length := by have := congrArg List.length e; simpa using this
    refine ⟨⟨lk, by rw [hl]; exact (List.getElem?_eq_some_iff.mp h1).1⟩, fun x H' q => ?_⟩
    obtain ⟨T, key', v', e1, rfl, hT, rfl⟩ := q
    obtain ⟨d2, e2, rv⟩ := keys_items e r e1
    rw [h1] at e2; cases e2
    have hF := W.fresh hT
    have gr : Grow F H (upd F T (.tup [kV key, v'])) (upd H T (.tup [kV key, v'])) := .one hF hT
    exact ⟨_, gr, .tup upd_same (.cons (dK1_rep _) (.cons ((rv.le l m).le gr.f (LeA.refl _)) .nil))⟩
  stop := fun {Pr S F ι H} W l m cv lk => by
    refine ⟨lk, ?_⟩
    have hl : kvs.length = es.length := by have := congrArg List.length e; simpa using this
    rw [List.length_map, hl]; exact Nat.le_refl _

theorem lock_flat {ρ : Env'} {S S2 : Store} {w : Hd} {u : D} {lk : Option (Nat × D)} (h : isDct (some u) = false) (c : cont ρ S w = some u) (e : lockS ρ S w = some (S2, lk)) : S2 = S ∧ lk = none := by
  cases w with
  | slot i =>
    simp only [cont] at c
    simp only [lockS] at e
    split at e
    · cases e; exact ⟨rfl, rfl⟩
    · cases e
  | val v =>
    cases v <;> first
      | (simp only [lockS] at e; cases e; exact ⟨rfl, rfl⟩)
      | (simp only [cont] at c
         simp only [lockS] at e
         split at c
         · rename_i hc; rw [hc] at e; cases c
           cases u <;> first | (cases e; exact ⟨rfl, rfl⟩) | cases h
         · rename_i hc; rw [hc] at e; cases e; exact ⟨rfl, rfl⟩
         · cases c)
end
end Z

set_option Elab.async false
set_option linter.all false
set_option maxRecDepth 100000
set_option maxHeartbeats 4000000
namespace Z
open PySem PySem.Spec PyProof.Rows L2
section
variable {p : Pg} {N : List Str} {sc : Scope} {fn : Str → Bool} {k : Nat} {X : Cx} {G : Fns} {ρ : Env'} {S : Store} {e ea eb ec tg : Expr} {pos : Pos} {a b c : Ex}
theorem fi_seq (g : Good p N sc fn k X) (ha : FH p X ρ S ea (hOf a ρ S (evE G a ρ S))) : FI p X ρ S tg ea (evI G (.seq a) ρ S) := by
  intro Pr F ι α σ H R w xs S1 e S2 lk el P q
  rw [evI] at e
  obtain ⟨⟨h1, S1'⟩, e1, e⟩ := Option.bind_eq_some_iff.mp e
  obtain ⟨u, e2, e⟩ := Option.bind_eq_some_iff.mp e
  obtain ⟨ys, e3, e4⟩ := Option.map_eq_some_iff.mp e
  cases e4
  by_cases hd : isDct (some u) = true
  · refine wI_of (pi_keys peW) (wE_lock (ha Pr F ι α σ H R _ _ e1 _ fun x F1 ι1 H1 R1 l1 m1 r1 => ?_))
    obtain ⟨c, o, rfl, dob, hh⟩ := lock_ok (X := X) R1 r1 e2 hd el
    cases u <;> try cases hd
    · rename_i es
      obtain ⟨kvs, rfl, k1, k2⟩ := dob
      cases e3
      rcases hh with ⟨od, ho, R2, c2, fo, sb⟩ | ⟨ho, hh⟩
      · exact .inl ⟨c, od, rfl, .inl ⟨kvs, ho, q _ _ _ _ F1 ι1 H1 R2 l1 m1 r1 c2 (walk_keysK k1 k2) fo sb⟩⟩
      · refine .inr ⟨c, _, ho, trivial, fun od nf => ?_⟩
        obtain ⟨R2, c2, fo, sb⟩ := hh od nf
        exact ⟨c, od, rfl, .inl ⟨kvs, upd_same, q _ _ _ _ F1 ι1 _ R2 l1 m1 r1 c2 (walk_keysK k1 k2) fo sb⟩⟩
    · rename_i es
      obtain ⟨kvs, rfl, k1, k2⟩ := dob
      cases e3
      rcases hh with ⟨od, ho, R2, c2, fo, sb⟩ | ⟨ho, hh⟩
      · exact .inl ⟨c, od, rfl, .inr ⟨kvs, ho, q _ _ _ _ F1 ι1 H1 R2 l1 m1 r1 c2 (walk_keysT k1 k2) fo sb⟩⟩
      · refine .inr ⟨c, _, ho, trivial, fun od nf => ?_⟩
        obtain ⟨R2, c2, fo, sb⟩ := hh od nf
        exact ⟨c, od, rfl, .inr ⟨kvs, upd_same, q _ _ _ _ F1 ι1 _ R2 l1 m1 r1 c2 (walk_keysT k1 k2) fo sb⟩⟩
  · have hd : isDct (some u) = false := by simpa using hd
    obtain ⟨rfl, rfl⟩ := lock_flat hd e2 el
    cases u <;> try cases hd
    · cases e3
    · cases e3
    · cases e3
    · simp only [itemsIn] at e3
      split at e3
      · cases e3
        refine wI_of (pi_str peW) (ha Pr F ι α σ H R _ _ e1 _ fun x F1 ι1 H1 R1 l1 m1 r1 => ?_)
        have cv := cv_of R1 r1 e2
        cases cv
        exact ⟨_, rfl, q _ _ _ none F1 ι1 H1 R1 l1 m1 r1 e2 walk_str free_none fun _ _ z => z⟩
      · cases e3
    · cases e3
      refine wI_of (pi_list peW) (ha Pr F ι α σ H R _ _ e1 _ fun x F1 ι1 H1 R1 l1 m1 r1 => ?_)
      obtain ⟨c, vs, rfl, q1, q2⟩ := cv_of R1 r1 e2
      exact ⟨c, rfl, ⟨vs, by rw [g.K]; exact q1⟩, q _ _ _ none F1 ι1 H1 R1 l1 m1 r1 e2 (walk_lst g.K) free_none fun _ _ z => z⟩
    · cases e3
      refine wI_of (pi_tup peW) (ha Pr F ι α σ H R _ _ e1 _ fun x F1 ι1 H1 R1 l1 m1 r1 => ?_)
      obtain ⟨c, vs, rfl, q1, q2⟩ := cv_of R1 r1 e2
      exact ⟨c, rfl, ⟨vs, q1.sq⟩, q _ _ _ none F1 ι1 H1 R1 l1 m1 r1 e2 (walk_tup g.K) free_none fun _ _ z => z⟩
    · cases e3
theorem smallI_ok {i : Int} (h : smallI i = true) : -(2 ^ 62) ≤ i ∧ i < 2 ^ 62 := by
  unfold smallI at h
  simpa using h
theorem fi_rng {pp : Pos} (g : Good p N sc fn k X) (hg : sc.names.lookup ("range" : Str) = some .globalImplicit) (hm : p.mg "range" = none) (hs : isStar ea = false) (ha : ∀ S, FE p X ρ S ea (evE G a ρ S)) : FI p X ρ S tg (.Call (.Name "range" pp) [ea] [] pos) (evI G (.rng a) ρ S) := by
  intro Pr F ι α σ H R w xs S1 e S2 lk el P q
  rw [evI] at e
  obtain ⟨⟨u, S1'⟩, e1, e⟩ := Option.bind_eq_some_iff.mp e
  obtain ⟨j, e2, e⟩ := Option.bind_eq_some_iff.mp e
  split at e
  · rename_i hj
    cases e
    cases intOf_eq e2
    simp only [lockS] at el
    cases el
    have hG : Gl X "range" := by show X.env.scope.names.lookup _ = _; rw [g.sc]; exact hg
    have hM : X.mg "range" = none := by rw [← hm, ← g.pg]; rfl
    have fa : FA p X ρ S [ea] (evA G (.cons a .nil) ρ S) := fa_cons hs (ha S) fun S => fa_nil
    refine wI_of (pi_range1 hG hM paW (star_cons hs)) (fa Pr F ι α σ H R [.int j] S2 (by simp [evA, e1]) _ fun vs F1 ι1 H1 R1 l1 m1 rs => ?_)
    cases rs with
    | cons r1 r2 =>
    cases r2
    cases r1
    obtain ⟨h1, h2⟩ := smallI_ok hj
    exact ⟨j, rfl, h1, h2, q _ .non .non none F1 ι1 H1 R1 l1 m1 (show Rep p.K F1 ι1 .non .non from .non) rfl walk_rng free_none fun _ _ z => z⟩
  · cases e
theorem fi_rng2 {pp : Pos} (g : Good p N sc fn k X) (hg : sc.names.lookup ("range" : Str) = some .globalImplicit) (hm : p.mg "range" = none) (hs : isStar ea = false) (hs2 : isStar eb = false) (ha : ∀ S, FE p X ρ S ea (evE G a ρ S)) (hb : ∀ S, FE p X ρ S eb (evE G b ρ S)) :
    FI p X ρ S tg (.Call (.Name "range" pp) [ea, eb] [] pos) (evI G (.rng2 a b) ρ S) := by
  intro Pr F ι α σ H R w xs S1 e S2 lk el P q
  rw [evI] at e
  obtain ⟨⟨u, S1'⟩, e1, e⟩ := Option.bind_eq_some_iff.mp e
  obtain ⟨⟨u2, S2'⟩, e3, e⟩ := Option.bind_eq_some_iff.mp e
  obtain ⟨i, e2, e⟩ := Option.bind_eq_some_iff.mp e
  obtain ⟨j, e4, e⟩ := Option.bind_eq_some_iff.mp e
  split at e
  · rename_i hj
    cases e
    cases intOf_eq e2
    cases intOf_eq e4
    simp only [lockS] at el
    cases el
    have hG : Gl X "range" := by show X.env.scope.names.lookup _ = _; rw [g.sc]; exact hg
    have hM : X.mg "range" = none := by rw [← hm, ← g.pg]; rfl
    have fa : FA p X ρ S [ea, eb] (evA G (.cons a (.cons b .nil)) ρ S) := fa_cons hs (ha S) fun S => fa_cons hs2 (hb S) fun S => fa_nil
    refine wI_of (pi_range2 hG hM paW ((star_cons hs).trans (by rw [star_cons hs2]; rfl)) (star_cons hs2)) (fa Pr F ι α σ H R [.int i, .int j] S2 (by simp [evA, e1, e3]) _ fun vs F1 ι1 H1 R1 l1 m1 rs => ?_)
    cases rs with
    | cons r1 r2 =>
    cases r2 with
    | cons r2 r3 =>
    cases r3
    cases r1
    cases r2
    rw [Bool.and_eq_true] at hj
    obtain ⟨h1, h2⟩ := smallI_ok hj.1
    obtain ⟨h3, h4⟩ := smallI_ok hj.2
    exact ⟨i, j, rfl, ⟨h1, h2, h3, h4⟩, q _ .non .non none F1 ι1 H1 R1 l1 m1 (show Rep p.K F1 ι1 .non .non from .non) rfl walk_rng free_none fun _ _ z => z⟩
  · cases e
theorem fi_items {elts : List Expr} {kk : Nat} {tpos apos : Pos} (hb : attributeBase ea "items" X.env (eval ea X.env) = eval ea X.env) (hl : (apos.endLine == pos.line) = true) (ha : FH p X ρ S ea (hOf a ρ S (evE G a ρ S))) :
    FI p X ρ S (.Tuple elts kk tpos) (.Call (.Attribute ea "items" apos) [] [] pos) (evI G (.items a) ρ S) := by
  intro Pr F ι α σ H R w xs S1 e S2 lk el P q
  rw [evI] at e
  obtain ⟨⟨h1, S1'⟩, e1, e⟩ := Option.bind_eq_some_iff.mp e
  obtain ⟨u, e2, e⟩ := Option.bind_eq_some_iff.mp e
  obtain ⟨ys, e3, e4⟩ := Option.map_eq_some_iff.mp e
  cases e4
  cases u <;> try cases e3
  rename_i es
  refine wI_of (pi_items peW hb hl) (wE_lock (ha Pr F ι α σ H R _ _ e1 _ fun x F1 ι1 H1 R1 l1 m1 r1 => ?_))
  obtain ⟨c, o, rfl, dob, hh⟩ := lock_ok (X := X) R1 r1 e2 rfl el
  obtain ⟨kvs, rfl, k1, k2⟩ := dob
  rcases hh with ⟨od, ho, R2, c2, fo, sb⟩ | ⟨ho, hh⟩
  · exact .inl ⟨c, od, kvs, rfl, ho, q _ _ _ _ F1 ι1 H1 R2 l1 m1 r1 c2 (walk_items k1 k2) fo sb⟩
  · refine .inr ⟨c, _, ho, trivial, fun od nf => ?_⟩
    obtain ⟨R2, c2, fo, sb⟩ := hh od nf
    exact ⟨c, od, kvs, rfl, upd_same, q _ _ _ _ F1 ι1 _ R2 l1 m1 r1 c2 (walk_items k1 k2) fo sb⟩
end
/-! # targets -/
def setAll (ρ : Env') (l : List (Nat × D)) : Env' := l.foldl (fun ρ p => ρ.set p.1 (.fz p.2)) ρ
def wG (X : Cx) (tg : Expr) : TG := fun v σ H Q => ∀ pins s u, Inv X pins σ H s → RelV v u → wpAny (model X.prog X.w) X.A (assign tg X.env u) (fun _ s' => ∃ σ' H', Inv X pins σ' H' s' ∧ Q σ' H') X.xe s
theorem pgW {X : Cx} {tg : Expr} : PG X tg (wG X tg) := ⟨fun pins s _ _ _ u _ I r h => h pins s u I r⟩
/-- a target of a for or a comprehension -/
def FG (p : Pg) (X : Cx) (t : Tg) (tg : Expr) : Prop := ∀ {Pr ρ S F ι α σ H}, Rel p Pr ρ S F ι α σ H → ∀ {v d ρ'}, Rep p.K F ι v d → bindT t d ρ = some ρ' → ∀ Q : L2.St → Hp → Prop,
  (∀ σ', Rel p Pr ρ' S F ι α σ' H → (∀ vs, (∀ i ∈ t.ix, i ∈ vs) → wipe σ' vs = wipe σ vs) → Q σ' H) → wG X tg v σ H Q
theorem set_set_comm' {β : Type} (l : List β) {i j : Nat} (h : i ≠ j) (x y : β) : (l.set i x).set j y = (l.set j y).set i x := by
  apply List.ext_getElem?
  intro n
  simp only [List.getElem?_set, List.length_set]
  by_cases h1 : j = n <;> by_cases h2 : i = n <;> simp_all
theorem wipe_set {σ : L2.St} {i : Nat} {v : Option V} : ∀ {vs : List Nat}, i ∈ vs → wipe (σ.set i v) vs = wipe σ vs
  | x :: vs, h => by
    show (wipe (σ.set i v) vs).set x none = (wipe σ vs).set x none
    by_cases hi : i ∈ vs
    · rw [wipe_set hi]
    · have hx : i = x := by
        rcases List.mem_cons.mp h with h | h
        · exact h
        · exact absurd h hi
      subst hx
      have : ∀ vs : List Nat, i ∉ vs → wipe (σ.set i v) vs = (wipe σ vs).set i v := by
        intro vs
        induction vs with
        | nil => intro _; rfl
        | cons y vs ih =>
          intro hn
          show (wipe (σ.set i v) vs).set y none = ((wipe σ vs).set y none).set i v
          rw [ih (fun z => hn (List.mem_cons_of_mem _ z)), set_set_comm' _ (fun z => hn (by rw [z]; exact List.mem_cons_self))]
      rw [this vs hi, List.set_set]
theorem fg_nm {p : Pg} {N : List Str} {sc : Scope} {fn : Str → Bool} {k : Nat} {X : Cx} {i : Nat} {x : Str} {pos : Pos} (g : Good p N sc fn k X) (hN : N[i]? = some x) (hl : Loc sc x) (hf : fn x = true ∨ sc.names.lookup x = some .local) : FG p X (.nm i) (.Name x pos) := by
  intro Pr ρ S F ι α σ H R v d ρ' r e Q q pins s u I rv
  cases e
  exact (pg_name (i := i) (by rw [g.hN]; exact g.nd) (by rw [g.hN]; exact hN) (by rw [g.sc]; exact hl) (by rw [g.fn, g.sc]; exact hf)).run pins s σ H v u Q I rv (q _ (R.setFz r) fun vs h => wipe_set (h i (by simp [Tg.ix])))
/-- names of a tuple target -/
def NmOk (N : List Str) (sc : Scope) (fn : Str → Bool) : List Nat → List Expr → Prop
  | [], [] => True
  | i :: is, .Name x _ :: es => N[i]? = some x ∧ Loc sc x ∧ (fn x = true ∨ sc.names.lookup x = some .local) ∧ NmOk N sc fn is es
  | _, _ => False
theorem fg_all {p : Pg} {N : List Str} {sc : Scope} {fn : Str → Bool} {k : Nat} {X : Cx} (g : Good p N sc fn k X) : ∀ {is : List Nat} {es : List Expr}, NmOk N sc fn is es → (assignEach es X.env).findIdx? (·.1) = none ∧ (assignEach es X.env).length = is.length ∧
    ∃ t, PGs X es t ∧ ∀ {Pr ρ S F ι α σ H}, Rel p Pr ρ S F ι α σ H → ∀ {vs ds}, Reps p.K F ι vs ds → ds.length = is.length → ∀ Q : L2.St → Hp → Prop,
      (∀ σ', Rel p Pr (setAll ρ (is.zip ds)) S F ι α σ' H → (∀ vs, (∀ i ∈ is, i ∈ vs) → wipe σ' vs = wipe σ vs) → Q σ' H) → t vs σ H Q
  | [], [], _ => ⟨rfl, rfl, _, pgs_nil, fun {Pr ρ S F ι α σ H} R vs ds r hl Q q => by
    cases r with
    | nil => exact ⟨rfl, q σ R fun _ _ => rfl⟩
    | cons _ _ => cases hl⟩
  | i :: is, e :: es, h => by
    cases e <;> try exact h.elim
    rename_i x ps
    obtain ⟨hN, hl, hf, hr⟩ := h
    obtain ⟨h1, h2, t, pt, ht⟩ := fg_all g hr
    have hg : FG p X (.nm i) (.Name x ps) := fg_nm g hN hl hf
    have hst : assignEach (.Name x ps :: es) X.env = (false, assign (.Name x ps) X.env) :: assignEach es X.env := rfl
    refine ⟨?_, ?_, _, pgs_cons pgW pt, fun {Pr ρ S F ι α σ H} R vs ds r hl Q q => ?_⟩
    · rw [hst, List.findIdx?_cons]
      simp [h1]
    · rw [hst, List.length_cons, h2]; rfl
    · cases r with
      | nil => cases hl
      | @cons v d vs ds r1 r2 =>
      refine ⟨v, vs, rfl, hg R (ρ' := ρ.set i (.fz d)) r1 rfl _ fun σ' R' w1 => ht R' r2 (by simpa using hl) _ fun σ2 R2 w2 => ?_⟩
      refine q σ2 R2 fun ws hw => ?_
      rw [w2 ws fun j hj => hw j (List.mem_cons_of_mem _ hj), w1 ws fun j hj => ?_]
      have : j = i := by simpa [Tg.ix] using hj
      rw [this]; exact hw i List.mem_cons_self
  | [], _ :: _, h => h.elim
  | _ :: _, [], h => h.elim
theorem fg_nms {p : Pg} {N : List Str} {sc : Scope} {fn : Str → Bool} {k : Nat} {X : Cx} {is : List Nat} {es : List Expr} {kk : Nat} {pos : Pos} (g : Good p N sc fn k X) (h : NmOk N sc fn is es) : FG p X (.nms is) (.Tuple es kk pos) := by
  obtain ⟨h1, h2, t, pt, ht⟩ := fg_all g h
  intro Pr ρ S F ι α σ H R v d ρ' r e Q q pins s u I rv
  refine (pg_tup g.calm pt h2 h1).run pins s σ H v u Q I rv ?_
  simp only [bindT] at e
  split at e
  · rename_i ds
    split at e
    · rename_i hl
      cases e
      cases r with
      | @tup a vs ds f rs =>
      exact ⟨a, vs, rfl, (R.wd.sub _ _ f).tup.sq, by rw [rs.length, hl], ht R rs hl _ fun σ' R' w => q σ' R' w⟩
    · cases e
  · cases e

/-! # comprehensions -/
section
variable {p : Pg} {Pr : Hp} {ρ : Env'} {S : Store} {F : Hp} {ι : List Addr} {α : Nat → Addr} {σ : L2.St} {H : Hp} {a : Addr} {d : D}
theorem wipeS_at {ρ : Env'} {j : Nat} {x : Slot} : ∀ {is : List Nat}, (wipeS ρ is)[j]? = some x → (j ∉ is ∧ ρ[j]? = some x) ∨ x = .un
  | [], h => .inl ⟨by simp, h⟩
  | i :: is, h => by
    have h : ((wipeS ρ is).set i .un)[j]? = some x := h
    rcases getElem?_set_slot h with ⟨_, _, z⟩ | ⟨ne, h⟩
    · exact .inr z
    · rcases wipeS_at h with ⟨h1, h2⟩ | h
      · exact .inl ⟨fun z => by
          rcases List.mem_cons.mp z with z | z
          · exact ne z.symm
          · exact h1 z, h2⟩
      · exact .inr h
theorem wipeS_out {ρ : Env'} {j : Nat} : ∀ {is : List Nat}, j ∉ is → (wipeS ρ is)[j]? = ρ[j]?
  | [], _ => rfl
  | i :: is, h => by
    show ((wipeS ρ is).set i .un)[j]? = _
    rw [List.getElem?_set_ne fun z => h (by rw [← z]; exact List.mem_cons_self)]
    exact wipeS_out fun z => h (List.mem_cons_of_mem _ z)
theorem wipeS_len {ρ : Env'} : ∀ {is : List Nat}, (wipeS ρ is).length = ρ.length
  | [] => rfl
  | i :: is => by
    show ((wipeS ρ is).set i .un).length = _
    rw [List.length_set, wipeS_len]
theorem wipe_out {σ : L2.St} {j : Nat} : ∀ {is : List Nat}, j ∉ is → (wipe σ is)[j]? = σ[j]?
  | [], _ => rfl
  | i :: is, h => by
    show ((wipe σ is).set i none)[j]? = _
    rw [List.getElem?_set_ne fun z => h (by rw [← z]; exact List.mem_cons_self)]
    exact wipe_out fun z => h (List.mem_cons_of_mem _ z)
theorem wipe_in {σ : L2.St} {j : Nat} : ∀ {is : List Nat}, j ∈ is → (wipe σ is)[j]? = if j < σ.length then some none else none
  | i :: is, h => by
    show ((wipe σ is).set i none)[j]? = _
    rw [List.getElem?_set, wipe_length]
    by_cases e : i = j
    · subst e; simp
    · rw [if_neg e]
      exact wipe_in (by
        rcases List.mem_cons.mp h with h | h
        · exact absurd h.symm e
        · exact h)
theorem wipe_wipe (σ : L2.St) (is : List Nat) : wipe (wipe σ is) is = wipe σ is := by
  apply List.ext_getElem?
  intro j
  by_cases h : j ∈ is
  · rw [wipe_in h, wipe_in h, wipe_length]
  · rw [wipe_out h]
theorem Rel.wipe (R : Rel p Pr ρ S F ι α σ H) (is : List Nat) : Rel p Pr (wipeS ρ is) S F ι α (L2.wipe σ is) H where
  wd := R.wd
  fz := fun i d h => by
    rcases wipeS_at h with ⟨h1, h2⟩ | h
    · rw [wipe_out h1]; exact R.fz i d h2
    · cases h
  own := fun i d h => by
    rcases wipeS_at h with ⟨h1, h2⟩ | h
    · rw [wipe_out h1]; exact R.own i d h2
    · cases h
  lng := by rw [wipeS_len, wipe_length]; exact R.lng
  inj := fun i j d e h1 h2 z => by
    rcases wipeS_at h1 with ⟨_, h1⟩ | h1
    · rcases wipeS_at h2 with ⟨_, h2⟩ | h2
      · exact R.inj i j d e h1 h2 z
      · cases h2
    · cases h1
theorem noOwn_ok {is : List Nat} (h : noOwn ρ is = true) {i : Nat} {e : D} (he : ρ[i]? = some (.own e)) : i ∉ is := fun hi => by
  unfold noOwn at h
  have := List.all_eq_true.mp h i hi
  rw [he] at this
  cases this
theorem setAll_out {j : Nat} : ∀ {l : List (Nat × D)} {ρ : Env'}, (∀ q ∈ l, q.1 ≠ j) → (setAll ρ l)[j]? = ρ[j]?
  | [], _, _ => rfl
  | q :: l, ρ, h => by
    show (setAll (ρ.set q.1 (.fz q.2)) l)[j]? = _
    rw [setAll_out fun r hr => h r (List.mem_cons_of_mem _ hr), List.getElem?_set_ne (h q List.mem_cons_self)]
theorem bindT_own {t : Tg} {ρ' : Env'} {v e : D} (h : bindT t v (wipeS ρ t.ix) = some ρ') (no : noOwn ρ t.ix = true) {i : Nat} (he : ρ[i]? = some (.own e)) : ρ'[i]? = some (.own e) := by
  have hi := noOwn_ok no he
  cases t with
  | nm j =>
    cases h
    have hi : i ∉ [j] := hi
    rw [List.getElem?_set_ne fun z => hi (by simp [z])]
    show (wipeS ρ [j])[i]? = _
    rw [wipeS_out hi]; exact he
  | nms js =>
    simp only [bindT] at h
    split at h
    · split at h
      · cases h
        rename_i ds _
        have := setAll_out (l := js.zip ds) (ρ := wipeS ρ js) (j := i) fun q hq z => hi (by
          rw [← z]
          exact (List.of_mem_zip hq).1)
        show (setAll (wipeS ρ js) (js.zip ds))[i]? = _
        rw [this]; exact (wipeS_out (is := js) hi).trans he
      · cases h
    · cases h
/-- behind a block: the names as they were -/
theorem Rel.join {ρ' : Env'} {S' : Store} {F' : Hp} {ι' : List Addr} {σ' : L2.St} {H' : Hp} {Pr0 : Hp} (R : Rel p Pr0 ρ S F ι α σ H) (R' : Rel p Pr ρ' S' F' ι' α σ' H') (l : LeH F F') (m : LeA ι ι') (h : ∀ (i : Nat) (e : D), ρ[i]? = some (Slot.own e) → ρ'[i]? = some (Slot.own e)) : Rel p Pr ρ S' F' ι' α σ H' where
  wd := R'.wd
  fz := fun i d k => let ⟨v, h1, h2⟩ := R.fz i d k; ⟨v, h1, h2.le l m⟩
  own := fun i d k => by
    obtain ⟨_, h2, h3, h4, h5⟩ := R'.own i d (h i d k)
    exact ⟨(R.own i d k).1, h2, h3, h4, h5⟩
  lng := R.lng
  inj := R.inj
/-- what is guarded as a list is nothing else's -/
theorem Rel.alone {vs : List V} (R : Rel p (upd Pr a (.lst vs)) ρ S F ι α σ H) : H a = some (.lst vs) ∧ F a = none ∧ a ∉ ι ∧ ∀ j e, ρ[j]? = some (.own e) → α j ≠ a := by
  obtain ⟨h1, h2, h3⟩ := R.wd.prot a _ upd_same
  refine ⟨h1, h2.resolve_right id, fun hm => ?_, fun j e hj z => ?_⟩
  · obtain ⟨n, hn⟩ := List.getElem?_of_mem hm
    have hl : n < S.length := by rw [← R.wd.len]; exact (List.getElem?_eq_some_iff.mp hn).1
    obtain ⟨d, hd⟩ := h3 n S[n] hn (List.getElem?_eq_getElem hl)
    obtain ⟨_, q⟩ := R.wd.cell n S[n] a (List.getElem?_eq_getElem hl) hn
    rw [hd] at q
    obtain ⟨ob, o, q⟩ := LRep.there q
    rw [h1] at q; cases q
  · have := (R.own j e hj).2.2.2.2
    rw [z, upd_same] at this; cases this
theorem Rel.reguard {vs ws : List V} (R : Rel p (upd Pr a (.lst vs)) ρ S F ι α σ H) : Rel p (upd Pr a (.lst ws)) ρ S F ι α σ (upd H a (.lst ws)) := by
  obtain ⟨h1, h2, h3, h4⟩ := R.alone
  exact {
    wd := {
      sub := fun b u e => by
        have hb : b ≠ a := fun z => by rw [z, h2] at e; cases e
        rcases R.wd.sub b u e with h | ⟨k, ob, h⟩
        · exact .inl (by rw [upd_ne hb]; exact h)
        · exact .inr ⟨k, ob, by rw [upd_ne hb]; exact h⟩
      con := R.wd.con
      len := R.wd.len
      nd := R.wd.nd
      cell := fun m c' b k1 k2 => by
        obtain ⟨q1, q2⟩ := R.wd.cell m c' b k1 k2
        exact ⟨q1, q2.le (LeH.refl _) (LeA.refl _) (upd_ne fun z => h3 (by rw [← z]; exact List.mem_of_getElem? k2))⟩
      prot := fun b u h => by
        by_cases hb : b = a
        · subst hb
          rw [upd_same] at h; cases h
          exact ⟨upd_same, .inl h2, fun n c k _ => absurd (List.mem_of_getElem? k) h3⟩
        · rw [upd_ne hb] at h
          obtain ⟨q1, q2, q3⟩ := R.wd.prot b u (by rw [upd_ne hb]; exact h)
          exact ⟨by rw [upd_ne hb]; exact q1, q2, q3⟩ }
    fz := R.fz
    own := fun i d h => by
      obtain ⟨k1, k2, k3, k4, k5⟩ := R.own i d h
      exact ⟨k1, k2, k3, k4.le (LeH.refl _) (LeA.refl _) (upd_ne (h4 i d h)), by rw [upd_ne (h4 i d h)] at k5 ⊢; exact k5⟩
    lng := R.lng
    inj := R.inj }
end

section
variable {p : Pg} {N : List Str} {sc : Scope} {fn : Str → Bool} {k : Nat} {X : Cx} {G : Fns} {ρ : Env'} {S : Store} {tg iter elt : Expr} {pos : Pos}
abbrev blkX (X : Cx) (scope : Scope) (s : Shared) (H : Hp) (C : Addr) (cl : List (Str × Addr)) (fp : List Addr) : Cx := X.blk s H scope (compEnvC scope cl C X.env) fp
abbrev fnB (scope : Scope) : Str → Bool := fun x => scope.names.lookup x == some .cell
theorem good_blk {scope : Scope} (g : Good p N sc fn k X) (s : Shared) (H : Hp) (C : Addr) (cl : List (Str × Addr)) (fp : List Addr) : Good p N (relS scope sc) (fnB scope) k (blkX X scope s H C cl fp) where
  pg := g.pg
  calm := g.calm
  hN := g.hN
  nd := g.nd
  sc := by
    show relabel scope X.env = _
    unfold relabel relS Env.kindOf
    rw [g.sc]
  fn := rfl
  xe := rfl
  room := g.room
  grd := g.grd
/-- one filter or none -/
inductive FC (p : Pg) (G : Fns) : (∀ _ : Cx, Prop) → List Expr → Ar → Prop
  | nil {B : Cx → Prop} : FC p G B [] .nil
  | one {B : Cx → Prop} {e : Expr} {c : Ex} : (∀ X, B X → ∀ ρ S, FT p X ρ S e (evE G c ρ S)) → FC p G B [e] (.cons c .nil)
theorem comp_core {scope : Scope} {t : Tg} {it : It} {c : Ar} {e : Ex} {ifs : List Expr} {own : List (Str × Nat)} (g : Good p N sc fn k X) (hi : FI p X ρ S tg iter (evI G it ρ S)) (ok : BlkOk N sc scope own) (hix : own.map (·.2) = t.ix)
    (hg : ∀ X', Good p N (relS scope sc) (fnB scope) k X' → FG p X' t tg) (hc : FC p G (Good p N (relS scope sc) (fnB scope) k) ifs c) (he : ∀ X', Good p N (relS scope sc) (fnB scope) k X' → ∀ ρ S, FE p X' ρ S elt (evE G e ρ S)) :
    ∃ gT tt tE, (∀ s H0 C cl fp, PG (blkX X scope s H0 C cl fp) tg gT) ∧ (∀ s H0 C cl fp, PTs (blkX X scope s H0 C cl fp) ifs tt) ∧ (∀ s H0 C cl fp, PE (blkX X scope s H0 C cl fp) elt tE) ∧
      ∀ Pr F ι α σ H, Rel p Pr ρ S F ι α σ H → ∀ d S', evE G (.comp t it c e) ρ S = some (d, S') → ∀ Q : VK, (∀ a F' ι' H', Rel p Pr ρ S' F' ι' α σ H' → LeH F F' → LeA ι ι' → Fr p Pr ρ F' ι' α H' a d → Q (.ref a) H') →
        tLc (wI X tg iter) gT tt tE (own.map (·.2)) σ H fun x H1 => Unl X (Q x) H1 := by
  have hN : X.N.Nodup := by rw [g.hN]; exact g.nd
  have gB := fun s H C cl fp => good_blk (scope := scope) g s H C cl fp
  have okX : BlkOk X.N X.env.scope scope own := by rw [g.hN, g.sc]; exact ok
  -- the readings over all blocks
  let gT : TG := fun v σ H Q => ∀ s H0 C cl fp, wG (blkX X scope s H0 C cl fp) tg v σ H Q
  let tE : TE := fun σ H Q => ∀ s H0 C cl fp, wE (blkX X scope s H0 C cl fp) elt σ H Q
  have pg : ∀ s H0 C cl fp, PG (blkX X scope s H0 C cl fp) tg gT := fun s H0 C cl fp => ⟨fun pins s' σ H v u Q I r h => pgW.run pins s' σ H v u Q I r (h s H0 C cl fp)⟩
  have pe : ∀ s H0 C cl fp, PE (blkX X scope s H0 C cl fp) elt tE := fun s H0 C cl fp => ⟨fun pins s' σ H Q I h => peW.run pins s' σ H Q I (h s H0 C cl fp)⟩
  have ct : ∃ tt : TT, (∀ s H0 C cl fp, PTs (blkX X scope s H0 C cl fp) ifs tt) ∧ ∀ {Pr ρ' S F ι α σ H}, Rel p Pr ρ' S F ι α σ H → ∀ {b S'}, (match (motive := Ar → Option (Bool × Store)) c with
        | .nil => some (true, S)
        | .cons c _ => (evE G c ρ' S).bind fun q => (blOf q.1).map fun b => (b, q.2)) = some (b, S') →
      ∀ Q : Bool → Hp → Prop, (∀ F' ι' H', Rel p Pr ρ' S' F' ι' α σ H' → LeH F F' → LeA ι ι' → Q b H') → tt σ H Q := by
    cases hc with
    | nil =>
      refine ⟨tYes, fun s H0 C cl fp => pts_nil, fun {Pr ρ' S F ι α σ H} R b S' e Q q => ?_⟩
      cases e
      exact q F ι H R (LeH.refl _) (LeA.refl _)
    | @one e' c' h =>
      refine ⟨fun σ H Q => ∀ s H0 C cl fp, wT (blkX X scope s H0 C cl fp) e' σ H Q, fun s H0 C cl fp => pts_one ⟨fun pins s' σ H Q I h => ptW.run pins s' σ H Q I (h s H0 C cl fp)⟩, fun {Pr ρ' S F ι α σ H} R b S' e Q q s H0 C cl fp => ?_⟩
      obtain ⟨⟨u, S5⟩, h1, h2⟩ := Option.bind_eq_some_iff.mp e
      obtain ⟨b', h3, h4⟩ := Option.map_eq_some_iff.mp h2
      cases h4
      cases blOf_eq h3
      exact h _ (gB s H0 C cl fp) ρ' S Pr F ι α σ H R _ _ h1 Q q
  obtain ⟨tt, pt, ht⟩ := ct
  refine ⟨gT, tt, tE, pg, pt, pe, ?_⟩
  intro Pr F ι α σ H R d S' er Q q
  rw [evE] at er
  split at er
  case isFalse => cases er
  rename_i no
  obtain ⟨⟨w, xs, S1⟩, e1, er⟩ := Option.bind_eq_some_iff.mp er
  obtain ⟨⟨S2, lk⟩, e2, er⟩ := Option.bind_eq_some_iff.mp er
  obtain ⟨⟨ys, S3⟩, e3, er⟩ := Option.bind_eq_some_iff.mp er
  obtain ⟨S4, e4, er⟩ := Option.bind_eq_some_iff.mp er
  split at er
  case isFalse => cases er
  rename_i hz
  cases er
  refine hi Pr F ι α σ H R w xs S1 e1 S2 lk e2 _ fun J v u Lk F1 ι1 H1 R1 l1 m1 hr c1 wk fo sb => fun D hD => ?_
  obtain ⟨Ra, fa⟩ := R1.alloc (d := .lst []) (o := .lst []) hD fun G g => ⟨[], g, .nil⟩
  have Rb := Ra.guard (a := D) (o := .lst []) upd_same (.inl fa.nf) (fun n c h _ => absurd (List.mem_of_getElem? h) fa.ni) fa.no
  have prL := fa.np
  have prD : Pr D = none := by
    cases z : Pr D with
    | none => rfl
    | some o => rw [sb D o z] at prL; cases prL
  obtain ⟨W, hW⟩ : ∃ W : Nat → Nat → Hp → Prop, W = fun i m H => m = xs.length - i ∧ i ≤ xs.length ∧ ∃ S F ι acc vs rest, Rel p (upd (lkP Pr Lk) D (.lst vs)) ρ S F ι α σ H ∧ LeH F1 F ∧ LeA ι1 ι ∧ Reps p.K F ι vs acc ∧ cont ρ S w = some u ∧
      compGo (fun S' => cont ρ S' w = cont ρ S2 w) (fun d S' => (bindT t d (wipeS ρ t.ix)).bind fun ρ' => match c with
        | .nil => (evE G e ρ' S').map fun r => (some r.1, r.2)
        | .cons c _ => (evE G c ρ' S').bind fun q => (blOf q.1).bind fun b => if b then (evE G e ρ' q.2).map fun r => (some r.1, r.2) else some (none, q.2)) (xs.drop i) S = some (rest, S3) ∧ ys = acc ++ rest := ⟨_, rfl⟩
  refine ⟨W, ⟨xs.length - 0, by rw [hW]; exact ⟨rfl, Nat.zero_le _, S2, F1, ι1, [], [], ys, Rb, LeH.refl _, LeA.refl _, .nil, c1, e3, rfl⟩⟩, ?_⟩
  intro i m H2 hw
  rw [hW] at hw
  obtain ⟨hm, hi2, S, F2, ι2, acc, vs, rest, R2, l2, m2, rs, cc, eg, ey⟩ := hw
  have cv := cv_of R2 (hr.le l2 m2) cc
  have lkk : LkOk H2 Lk := by
    cases Lk with
    | none => trivial
    | some q =>
      have : q.1 ≠ D := fun z => by
        have := prL
        show False
        rw [← z] at this
        change upd Pr q.1 q.2 q.1 = none at this
        rw [upd_same] at this; cases this
      refine (R2.wd.prot q.1 q.2 ?_).1
      rw [upd_ne this]
      exact upd_same
  cases hx : xs[i]? with
  | none =>
    have hlen : xs.length ≤ i := List.getElem?_eq_none_iff.mp hx
    have : i = xs.length := by omega
    subst this
    refine .inl ⟨wk.stop R2.wd l2 m2 cv lkk, ?_⟩
    rw [List.drop_length] at eg
    cases eg
    rw [List.append_nil] at ey
    subst ey
    obtain ⟨a1, a2, a3, a4⟩ := R2.alone
    have R3 := R2.weak (Pr := lkP Pr Lk) fun b o z => by
      rw [upd_ne fun y => by rw [y, prL] at z; cases z]; exact z
    obtain ⟨H3, R4, k1, k2⟩ := fo R3 l2 m2 e4
    refine k2 _ (q D F2 ι2 H3 R4 (l1.trans l2) (m1.trans m2) ⟨⟨vs, k1 _ _ a1 (fun _ _ z => by cases z), rs⟩, a2, a3, prD, a4⟩)
  | some d =>
    have hil : i < xs.length := (List.getElem?_eq_some_iff.mp hx).1
    have hdrop : xs.drop i = d :: xs.drop (i + 1) := by
      rw [List.drop_eq_getElem_cons hil]
      congr 1
      have := List.getElem?_eq_some_iff.mp hx
      exact this.2
    rw [hdrop] at eg
    simp only [compGo] at eg
    obtain ⟨⟨od, S5⟩, f1, eg⟩ := Option.bind_eq_some_iff.mp eg
    split at eg
    case isFalse => cases eg
    rename_i kp
    obtain ⟨⟨rest', S6⟩, f2, f3⟩ := Option.map_eq_some_iff.mp eg
    cases f3
    obtain ⟨go, yl⟩ := wk.step hx R2.wd l2 m2 cv lkk
    refine .inr ⟨go, W (i + 1) (m - 1), fun H' h => ⟨m - 1, by omega, h⟩, fun x H' y => ?_⟩
    obtain ⟨F3, gr, rx⟩ := yl x H' y
    have R3 := R2.grow gr
    obtain ⟨ρ', f4, f5⟩ := Option.bind_eq_some_iff.mp f1
    rw [hix]
    intro s H0 C cl fp
    refine hg _ (gB s H0 C cl fp) (R3.wipe t.ix) rx f4 _ fun σ2 R4 w2 => ?_
    refine ⟨(w2 _ fun i hi => hi).trans (wipe_wipe _ _), ?_⟩
    -- back to the names around
    have back : ∀ {S' F' ι' H' vs'}, Rel p (upd (lkP Pr Lk) D (.lst vs')) ρ' S' F' ι' α σ2 H' → LeH F3 F' → LeA ι2 ι' → Rel p (upd (lkP Pr Lk) D (.lst vs')) ρ S' F' ι' α σ H' := fun R' l m =>
      R3.join R' l m fun i e he => bindT_own f4 no he
    have mk : ∀ {F' ι' H' vs' acc'}, Rel p (upd (lkP Pr Lk) D (.lst vs')) ρ S5 F' ι' α σ H' → LeH F3 F' → LeA ι2 ι' → Reps p.K F' ι' vs' acc' → ys = acc' ++ rest' → W (i + 1) (m - 1) H' := fun {F' ι' H' vs' acc'} R' l m r h => by
      rw [hW]
      exact ⟨by omega, hil, S5, F', ι', acc', vs', rest', R', (l2.trans gr.f).trans l, m2.trans m, r, by rw [kp]; exact c1, f2, h⟩
    have one : ∀ {S0 F5 ι5 H5 y S7}, Rel p (upd (lkP Pr Lk) D (.lst vs)) ρ' S0 F5 ι5 α σ2 H5 → LeH F3 F5 → LeA ι2 ι5 → evE G e ρ' S0 = some (y, S7) → od = some y → S5 = S7 → tE σ2 H5 fun yv H6 => ∃ acc, H6 D = some (.lst acc) ∧ acc.length < sizeLine ∧ W (i + 1) (m - 1) (upd H6 D (.lst (acc ++ [yv]))) := fun {S0 F5 ι5 H5 y S7} R5 l5 m5 f6 hod hS s H0 C cl fp => by
      subst hod hS
      refine he _ (gB s H0 C cl fp) ρ' S0 _ F5 ι5 α σ2 H5 R5 _ _ f6 _ fun yv F6 ι6 H6 R6 l6 m6 ry => ?_
      have rs6 := rs.le ((gr.f.trans l5).trans l6) (m5.trans m6)
      have ey : ys = acc ++ [y] ++ rest' := by rw [ey, List.append_assoc]; rfl
      refine ⟨vs, R6.alone.1, ?_, mk (back R6 (l5.trans l6) (m5.trans m6)).reguard (l5.trans l6) (m5.trans m6) (rs6.app (.cons ry .nil)) ey⟩
      have : ys.length ≤ sizeLine := hz
      rw [ey] at this
      simp only [List.length_append, List.length_singleton] at this
      rw [rs6.length]; omega
    cases c with
    | nil =>
      obtain ⟨⟨y', S7⟩, f6, f7⟩ := Option.map_eq_some_iff.mp f5
      cases f7
      refine ht R4 (b := true) rfl _ fun F5 ι5 H5 R5 l5 m5 => ?_
      rw [if_pos rfl]
      exact one R5 l5 m5 f6 rfl rfl
    | cons c' cr =>
      obtain ⟨⟨bq, S7⟩, f6, f7⟩ := Option.bind_eq_some_iff.mp f5
      obtain ⟨b, f8, f9⟩ := Option.bind_eq_some_iff.mp f7
      refine ht R4 (b := b) (S' := S7) (by simp only [f6, Option.bind_some, f8, Option.map_some]) _ fun F5 ι5 H5 R5 l5 m5 => ?_
      by_cases hb : b = true
      · rw [if_pos hb] at f9 ⊢
        obtain ⟨⟨y', S8⟩, f10, f11⟩ := Option.map_eq_some_iff.mp f9
        cases f11
        exact one R5 l5 m5 f10 rfl rfl
      · rw [if_neg hb] at f9 ⊢
        cases f9
        exact mk (back R5 l5 m5) l5 m5 (rs.le (gr.f.trans l5) m5) ey
theorem fn_comp {scope : Scope} {t : Tg} {it : It} {c : Ar} {e : Ex} {ifs : List Expr} {own : List (Str × Nat)} (g : Good p N sc fn k X) (hi : FI p X ρ S tg iter (evI G it ρ S)) (ok : BlkOk N sc scope own) (hix : own.map (·.2) = t.ix)
    (hg : ∀ X', Good p N (relS scope sc) (fnB scope) k X' → FG p X' t tg) (hc : FC p G (Good p N (relS scope sc) (fnB scope) k) ifs c) (he : ∀ X', Good p N (relS scope sc) (fnB scope) k X' → ∀ ρ S, FE p X' ρ S elt (evE G e ρ S))
    (hs : ∀ x, foldedSetIterable iter X.env x = pure x) : FN p X ρ S (.ListComp elt [⟨tg, iter, ifs, 0⟩] scope pos) (evE G (.comp t it c e) ρ S) := by
  obtain ⟨gT, tt, tE, pg, pt, pe, h⟩ := comp_core g hi ok hix hg hc he
  intro Pr F ι α σ H R d S' er Q q
  exact wE_unl (wE_of (pe_lc (own := own) g.calm (by rw [g.hN]; exact g.nd) piW (by rw [g.hN, g.sc]; exact ok) pg pt pe hs) (h Pr F ι α σ H R d S' er Q q))
end
end Z

set_option Elab.async false
set_option linter.all false
set_option maxRecDepth 100000
set_option maxHeartbeats 4000000
namespace Z
open PySem PySem.Spec PyProof.Rows L2
section
variable {p : Pg} {Pr : Hp} {ρ : Env'} {S : Store} {F : Hp} {ι : List Addr} {α : Nat → Addr} {σ : L2.St} {H : Hp} {a : Addr} {d : D}
/-- what is guarded as a dict is nothing else's -/
theorem Rel.aloneK {vs : List (Key × V)} (R : Rel p (upd Pr a (.dK vs)) ρ S F ι α σ H) : H a = some (.dK vs) ∧ F a = none ∧ a ∉ ι ∧ ∀ j e, ρ[j]? = some (.own e) → α j ≠ a := by
  obtain ⟨h1, h2, h3⟩ := R.wd.prot a _ upd_same
  refine ⟨h1, h2.resolve_right id, fun hm => ?_, fun j e hj z => ?_⟩
  · obtain ⟨n, hn⟩ := List.getElem?_of_mem hm
    have hl : n < S.length := by rw [← R.wd.len]; exact (List.getElem?_eq_some_iff.mp hn).1
    obtain ⟨d, hd⟩ := h3 n S[n] hn (List.getElem?_eq_getElem hl)
    obtain ⟨_, q⟩ := R.wd.cell n S[n] a (List.getElem?_eq_getElem hl) hn
    rw [hd] at q
    obtain ⟨ob, o, q⟩ := LRep.there q
    rw [h1] at q; cases q
  · have := (R.own j e hj).2.2.2.2
    rw [z, upd_same] at this; cases this
theorem Rel.reguardK {vs ws : List (Key × V)} (R : Rel p (upd Pr a (.dK vs)) ρ S F ι α σ H) : Rel p (upd Pr a (.dK ws)) ρ S F ι α σ (upd H a (.dK ws)) := by
  obtain ⟨h1, h2, h3, h4⟩ := R.aloneK
  exact {
    wd := {
      sub := fun b u e => by
        have hb : b ≠ a := fun z => by rw [z, h2] at e; cases e
        rcases R.wd.sub b u e with h | ⟨k, ob, h⟩
        · exact .inl (by rw [upd_ne hb]; exact h)
        · exact .inr ⟨k, ob, by rw [upd_ne hb]; exact h⟩
      con := R.wd.con
      len := R.wd.len
      nd := R.wd.nd
      cell := fun m c' b k1 k2 => by
        obtain ⟨q1, q2⟩ := R.wd.cell m c' b k1 k2
        exact ⟨q1, q2.le (LeH.refl _) (LeA.refl _) (upd_ne fun z => h3 (by rw [← z]; exact List.mem_of_getElem? k2))⟩
      prot := fun b u h => by
        by_cases hb : b = a
        · subst hb
          rw [upd_same] at h; cases h
          exact ⟨upd_same, .inl h2, fun n c k _ => absurd (List.mem_of_getElem? k) h3⟩
        · rw [upd_ne hb] at h
          obtain ⟨q1, q2, q3⟩ := R.wd.prot b u (by rw [upd_ne hb]; exact h)
          exact ⟨by rw [upd_ne hb]; exact q1, q2, q3⟩ }
    fz := R.fz
    own := fun i d h => by
      obtain ⟨k1, k2, k3, k4, k5⟩ := R.own i d h
      exact ⟨k1, k2, k3, k4.le (LeH.refl _) (LeA.refl _) (upd_ne (h4 i d h)), by rw [upd_ne (h4 i d h)] at k5 ⊢; exact k5⟩
    lng := R.lng
    inj := R.inj }
end
section
variable {p : Pg} {N : List Str} {sc : Scope} {fn : Str → Bool} {k : Nat} {X : Cx} {G : Fns} {ρ : Env'} {S : Store} {tg iter kx vx : Expr} {pos : Pos}
theorem dcomp_core {scope : Scope} {t : Tg} {it : It} {c : Ar} {ek ev : Ex} {ifs : List Expr} {own : List (Str × Nat)} (g : Good p N sc fn k X) (hi : FI p X ρ S tg iter (evI G it ρ S)) (ok : BlkOk N sc scope own) (hix : own.map (·.2) = t.ix)
    (hg : ∀ X', Good p N (relS scope sc) (fnB scope) k X' → FG p X' t tg) (hc : FC p G (Good p N (relS scope sc) (fnB scope) k) ifs c) (hek : ∀ X', Good p N (relS scope sc) (fnB scope) k X' → ∀ ρ S, FE p X' ρ S kx (evE G ek ρ S)) (hev : ∀ X', Good p N (relS scope sc) (fnB scope) k X' → ∀ ρ S, FE p X' ρ S vx (evE G ev ρ S)) :
    ∃ gT tt tK tE, (∀ s H0 C cl fp, PG (blkX X scope s H0 C cl fp) tg gT) ∧ (∀ s H0 C cl fp, PTs (blkX X scope s H0 C cl fp) ifs tt) ∧ (∀ s H0 C cl fp, PE (blkX X scope s H0 C cl fp) kx tK) ∧ (∀ s H0 C cl fp, PE (blkX X scope s H0 C cl fp) vx tE) ∧
      ∀ Pr F ι α σ H, Rel p Pr ρ S F ι α σ H → ∀ d S', evE G (.dcomp t it c ek ev) ρ S = some (d, S') → ∀ Q : VK, (∀ a F' ι' H', Rel p Pr ρ S' F' ι' α σ H' → LeH F F' → LeA ι ι' → Fr p Pr ρ F' ι' α H' a d → Q (.ref a) H') →
        tDc (wI X tg iter) gT tt tK tE (own.map (·.2)) σ H fun x H1 => Unl X (Q x) H1 := by
  have hN : X.N.Nodup := by rw [g.hN]; exact g.nd
  have gB := fun s H C cl fp => good_blk (scope := scope) g s H C cl fp
  have okX : BlkOk X.N X.env.scope scope own := by rw [g.hN, g.sc]; exact ok
  -- the readings over all blocks
  let gT : TG := fun v σ H Q => ∀ s H0 C cl fp, wG (blkX X scope s H0 C cl fp) tg v σ H Q
  let tK : TE := fun σ H Q => ∀ s H0 C cl fp, wE (blkX X scope s H0 C cl fp) kx σ H Q
  let tE : TE := fun σ H Q => ∀ s H0 C cl fp, wE (blkX X scope s H0 C cl fp) vx σ H Q
  have pg : ∀ s H0 C cl fp, PG (blkX X scope s H0 C cl fp) tg gT := fun s H0 C cl fp => ⟨fun pins s' σ H v u Q I r h => pgW.run pins s' σ H v u Q I r (h s H0 C cl fp)⟩
  have pk : ∀ s H0 C cl fp, PE (blkX X scope s H0 C cl fp) kx tK := fun s H0 C cl fp => ⟨fun pins s' σ H Q I h => peW.run pins s' σ H Q I (h s H0 C cl fp)⟩
  have pe : ∀ s H0 C cl fp, PE (blkX X scope s H0 C cl fp) vx tE := fun s H0 C cl fp => ⟨fun pins s' σ H Q I h => peW.run pins s' σ H Q I (h s H0 C cl fp)⟩
  have ct : ∃ tt : TT, (∀ s H0 C cl fp, PTs (blkX X scope s H0 C cl fp) ifs tt) ∧ ∀ {Pr ρ' S F ι α σ H}, Rel p Pr ρ' S F ι α σ H → ∀ {b S'}, (match (motive := Ar → Option (Bool × Store)) c with
        | .nil => some (true, S)
        | .cons c _ => (evE G c ρ' S).bind fun q => (blOf q.1).map fun b => (b, q.2)) = some (b, S') →
      ∀ Q : Bool → Hp → Prop, (∀ F' ι' H', Rel p Pr ρ' S' F' ι' α σ H' → LeH F F' → LeA ι ι' → Q b H') → tt σ H Q := by
    cases hc with
    | nil =>
      refine ⟨tYes, fun s H0 C cl fp => pts_nil, fun {Pr ρ' S F ι α σ H} R b S' e Q q => ?_⟩
      cases e
      exact q F ι H R (LeH.refl _) (LeA.refl _)
    | @one e' c' h =>
      refine ⟨fun σ H Q => ∀ s H0 C cl fp, wT (blkX X scope s H0 C cl fp) e' σ H Q, fun s H0 C cl fp => pts_one ⟨fun pins s' σ H Q I h => ptW.run pins s' σ H Q I (h s H0 C cl fp)⟩, fun {Pr ρ' S F ι α σ H} R b S' e Q q s H0 C cl fp => ?_⟩
      obtain ⟨⟨u, S5⟩, h1, h2⟩ := Option.bind_eq_some_iff.mp e
      obtain ⟨b', h3, h4⟩ := Option.map_eq_some_iff.mp h2
      cases h4
      cases blOf_eq h3
      exact h _ (gB s H0 C cl fp) ρ' S Pr F ι α σ H R _ _ h1 Q q
  obtain ⟨tt, pt, ht⟩ := ct
  refine ⟨gT, tt, tK, tE, pg, pt, pk, pe, ?_⟩
  intro Pr F ι α σ H R d S' er Q q
  rw [evE] at er
  split at er
  case isFalse => cases er
  rename_i no
  obtain ⟨⟨w, xs, S1⟩, e1, er⟩ := Option.bind_eq_some_iff.mp er
  obtain ⟨⟨S2, lk⟩, e2, er⟩ := Option.bind_eq_some_iff.mp er
  obtain ⟨⟨ys, S3⟩, e3, er⟩ := Option.bind_eq_some_iff.mp er
  obtain ⟨S4, e4, er⟩ := Option.bind_eq_some_iff.mp er
  split at er
  case isFalse => cases er
  rename_i hz
  obtain ⟨fin, e5, er⟩ := Option.map_eq_some_iff.mp er
  cases er
  refine hi Pr F ι α σ H R w xs S1 e1 S2 lk e2 _ fun J v u Lk F1 ι1 H1 R1 l1 m1 hr c1 wk fo sb => fun D hD => ?_
  obtain ⟨Ra, fa⟩ := R1.alloc (d := .dK []) (o := .dK []) hD fun G g => ⟨[], g, rfl, .nil⟩
  have Rb := Ra.guard (a := D) (o := .dK []) upd_same (.inl fa.nf) (fun n c h _ => absurd (List.mem_of_getElem? h) fa.ni) fa.no
  have prL := fa.np
  have prD : Pr D = none := by
    cases z : Pr D with
    | none => rfl
    | some o => rw [sb D o z] at prL; cases prL
  obtain ⟨W, hW⟩ : ∃ W : Nat → Nat → Hp → Prop, W = fun i m H => m = xs.length - i ∧ i ≤ xs.length ∧ ∃ S F ι acc vs rest, Rel p (upd (lkP Pr Lk) D (.dK vs)) ρ S F ι α σ H ∧ LeH F1 F ∧ LeA ι1 ι ∧ RKV p.K F ι vs acc ∧ cont ρ S w = some u ∧
      compGo (fun S' => cont ρ S' w = cont ρ S2 w) (fun d S' => (bindT t d (wipeS ρ t.ix)).bind fun ρ' => match c with
        | .nil => (evE G ek ρ' S').bind fun r => (evE G ev ρ' r.2).map fun q => (some (.tup [r.1, q.1]), q.2)
        | .cons c _ => (evE G c ρ' S').bind fun q => (blOf q.1).bind fun b => if b then (evE G ek ρ' q.2).bind fun r => (evE G ev ρ' r.2).map fun q => (some (.tup [r.1, q.1]), q.2) else some (none, q.2)) (xs.drop i) S = some (rest, S3) ∧ mkd rest acc = some fin ∧ acc.length + rest.length ≤ sizeLine := ⟨_, rfl⟩
  refine ⟨W, ⟨xs.length - 0, by rw [hW]; exact ⟨rfl, Nat.zero_le _, S2, F1, ι1, [], [], ys, Rb, LeH.refl _, LeA.refl _, .nil, c1, e3, e5, by simpa using hz⟩⟩, ?_⟩
  intro i m H2 hw
  rw [hW] at hw
  obtain ⟨hm, hi2, S, F2, ι2, acc, vs, rest, R2, l2, m2, rs, cc, eg, em, ez⟩ := hw
  have cv := cv_of R2 (hr.le l2 m2) cc
  have lkk : LkOk H2 Lk := by
    cases Lk with
    | none => trivial
    | some q =>
      have : q.1 ≠ D := fun z => by
        have := prL
        show False
        rw [← z] at this
        change upd Pr q.1 q.2 q.1 = none at this
        rw [upd_same] at this; cases this
      refine (R2.wd.prot q.1 q.2 ?_).1
      rw [upd_ne this]
      exact upd_same
  cases hx : xs[i]? with
  | none =>
    have hlen : xs.length ≤ i := List.getElem?_eq_none_iff.mp hx
    have : i = xs.length := by omega
    subst this
    refine .inl ⟨wk.stop R2.wd l2 m2 cv lkk, ?_⟩
    rw [List.drop_length] at eg
    cases eg
    cases em
    obtain ⟨a1, a2, a3, a4⟩ := R2.aloneK
    have R3 := R2.weak (Pr := lkP Pr Lk) fun b o z => by
      rw [upd_ne fun y => by rw [y, prL] at z; cases z]; exact z
    obtain ⟨H3, R4, k1, k2⟩ := fo R3 l2 m2 e4
    refine k2 _ (q D F2 ι2 H3 R4 (l1.trans l2) (m1.trans m2) ⟨⟨vs, k1 _ _ a1 (fun _ _ z => by cases z), rs.1, rs.2⟩, a2, a3, prD, a4⟩)
  | some d =>
    have hil : i < xs.length := (List.getElem?_eq_some_iff.mp hx).1
    have hdrop : xs.drop i = d :: xs.drop (i + 1) := by
      rw [List.drop_eq_getElem_cons hil]
      congr 1
      have := List.getElem?_eq_some_iff.mp hx
      exact this.2
    rw [hdrop] at eg
    simp only [compGo] at eg
    obtain ⟨⟨od, S5⟩, f1, eg⟩ := Option.bind_eq_some_iff.mp eg
    split at eg
    case isFalse => cases eg
    rename_i kp
    obtain ⟨⟨rest', S6⟩, f2, f3⟩ := Option.map_eq_some_iff.mp eg
    cases f3
    obtain ⟨go, yl⟩ := wk.step hx R2.wd l2 m2 cv lkk
    refine .inr ⟨go, W (i + 1) (m - 1), fun H' h => ⟨m - 1, by omega, h⟩, fun x H' y => ?_⟩
    obtain ⟨F3, gr, rx⟩ := yl x H' y
    have R3 := R2.grow gr
    obtain ⟨ρ', f4, f5⟩ := Option.bind_eq_some_iff.mp f1
    rw [hix]
    intro s H0 C cl fp
    refine hg _ (gB s H0 C cl fp) (R3.wipe t.ix) rx f4 _ fun σ2 R4 w2 => ?_
    refine ⟨(w2 _ fun i hi => hi).trans (wipe_wipe _ _), ?_⟩
    -- back to the names around
    have back : ∀ {S' F' ι' H' vs'}, Rel p (upd (lkP Pr Lk) D (.dK vs')) ρ' S' F' ι' α σ2 H' → LeH F3 F' → LeA ι2 ι' → Rel p (upd (lkP Pr Lk) D (.dK vs')) ρ S' F' ι' α σ H' := fun R' l m =>
      R3.join R' l m fun i e he => bindT_own f4 no he
    have mk : ∀ {F' ι' H' vs' acc'}, Rel p (upd (lkP Pr Lk) D (.dK vs')) ρ S5 F' ι' α σ H' → LeH F3 F' → LeA ι2 ι' → RKV p.K F' ι' vs' acc' → mkd rest' acc' = some fin → acc'.length + rest'.length ≤ sizeLine → W (i + 1) (m - 1) H' := fun {F' ι' H' vs' acc'} R' l m r h h' => by
      rw [hW]
      exact ⟨by omega, hil, S5, F', ι', acc', vs', rest', R', (l2.trans gr.f).trans l, m2.trans m, r, by rw [kp]; exact c1, f2, h, h'⟩
    have one : ∀ {S0 F5 ι5 H5 y S7 y2 S8}, Rel p (upd (lkP Pr Lk) D (.dK vs)) ρ' S0 F5 ι5 α σ2 H5 → LeH F3 F5 → LeA ι2 ι5 → evE G ek ρ' S0 = some (y, S7) → evE G ev ρ' S7 = some (y2, S8) → od = some (.tup [y, y2]) → S5 = S8 → tK σ2 H5 fun yv H6 => tE σ2 H6 fun zv H7 => ∃ acc k, yv = kV k ∧ H7 D = some (.dK acc) ∧ acc.length < sizeLine ∧ W (i + 1) (m - 1) (upd H7 D (.dK (putK acc k zv))) := fun {S0 F5 ι5 H5 y S7 y2 S8} R5 l5 m5 f6 f7 hod hS s H0 C cl fp => by
      subst hod hS
      refine hek _ (gB s H0 C cl fp) ρ' S0 _ F5 ι5 α σ2 H5 R5 _ _ f6 _ fun yv F6 ι6 H6 R6 l6 m6 ry => ?_
      intro s' H0' C' cl' fp'
      refine hev _ (gB s' H0' C' cl' fp') ρ' S7 _ F6 ι6 α σ2 H6 R6 _ _ f7 _ fun zv F7 ι7 H7 R7 l7 m7 rz => ?_
      obtain ⟨kk, k1, k2⟩ := Option.bind_eq_some_iff.mp (show (keyK y).bind (fun k => mkd rest' (dput acc k y2)) = some fin from em)
      have rs7 := rs.le (((gr.f.trans l5).trans l6).trans l7) ((m5.trans m6).trans m7)
      have hlen := rs7.len
      have hd := (RKV.put kk rz rs7).len
      have hput := L2.length_putK vs kk zv
      simp only [List.length_cons] at ez
      refine ⟨vs, kk, keyK_rep ry k1, R7.aloneK.1, by omega, mk (back R7 ((l5.trans l6).trans l7) ((m5.trans m6).trans m7)).reguardK ((l5.trans l6).trans l7) ((m5.trans m6).trans m7) (RKV.put kk rz rs7) k2 (by omega)⟩
    cases c with
    | nil =>
      obtain ⟨⟨y', S7⟩, f6, f7⟩ := Option.bind_eq_some_iff.mp f5
      obtain ⟨⟨y2, S8⟩, f8, f9⟩ := Option.map_eq_some_iff.mp f7
      cases f9
      refine ht R4 (b := true) rfl _ fun F5 ι5 H5 R5 l5 m5 => ?_
      rw [if_pos rfl]
      exact one R5 l5 m5 f6 f8 rfl rfl
    | cons c' cr =>
      obtain ⟨⟨bq, S7⟩, f6, f7⟩ := Option.bind_eq_some_iff.mp f5
      obtain ⟨b, f8, f9⟩ := Option.bind_eq_some_iff.mp f7
      refine ht R4 (b := b) (S' := S7) (by simp only [f6, Option.bind_some, f8, Option.map_some]) _ fun F5 ι5 H5 R5 l5 m5 => ?_
      by_cases hb : b = true
      · rw [if_pos hb] at f9 ⊢
        obtain ⟨⟨y', S8⟩, f10, f11⟩ := Option.bind_eq_some_iff.mp f9
        obtain ⟨⟨y2, S9⟩, f12, f13⟩ := Option.map_eq_some_iff.mp f11
        cases f13
        exact one R5 l5 m5 f10 f12 rfl rfl
      · rw [if_neg hb] at f9 ⊢
        cases f9
        exact mk (back R5 l5 m5) l5 m5 (rs.le (gr.f.trans l5) m5) em ez
theorem fn_dcomp {scope : Scope} {t : Tg} {it : It} {c : Ar} {ek ev : Ex} {ifs : List Expr} {own : List (Str × Nat)} (g : Good p N sc fn k X) (hi : FI p X ρ S tg iter (evI G it ρ S)) (ok : BlkOk N sc scope own) (hix : own.map (·.2) = t.ix)
    (hg : ∀ X', Good p N (relS scope sc) (fnB scope) k X' → FG p X' t tg) (hc : FC p G (Good p N (relS scope sc) (fnB scope) k) ifs c) (hek : ∀ X', Good p N (relS scope sc) (fnB scope) k X' → ∀ ρ S, FE p X' ρ S kx (evE G ek ρ S)) (hev : ∀ X', Good p N (relS scope sc) (fnB scope) k X' → ∀ ρ S, FE p X' ρ S vx (evE G ev ρ S))
    (hs : ∀ x, foldedSetIterable iter X.env x = pure x) : FN p X ρ S (.DictComp kx vx [⟨tg, iter, ifs, 0⟩] scope pos) (evE G (.dcomp t it c ek ev) ρ S) := by
  obtain ⟨gT, tt, tK, tE, pg, pt, pk, pe, h⟩ := dcomp_core g hi ok hix hg hc hek hev
  intro Pr F ι α σ H R d S' er Q q
  exact wE_unl (wE_of (pe_dc (own := own) g.calm (by rw [g.hN]; exact g.nd) piW (by rw [g.hN, g.sc]; exact ok) pg pt pk pe hs) (h Pr F ι α σ H R d S' er Q q))
end
end Z

set_option Elab.async false
set_option linter.all false
set_option maxRecDepth 100000
set_option maxHeartbeats 4000000
namespace Z
open PySem PySem.Spec PyProof.Rows L2

/-! # statements -/
def Meets (p : Pg) (Pr F : Hp) (ι : List Addr) (D : Ends) : Out → Prop
  | .nxt ρ S => ∀ F' ι' α' σ' H', Rel p Pr ρ S F' ι' α' σ' H' → LeH F F' → LeA ι ι' → D.nx σ' H'
  | .ret d S => ∀ v F' ι' H', Wd p Pr S F' ι' H' → LeH F F' → LeA ι ι' → Rep p.K F' ι' v d → D.rt v H'
  | .brk ρ S => ∀ F' ι' α' σ' H', Rel p Pr ρ S F' ι' α' σ' H' → LeH F F' → LeA ι ι' → D.bk σ' H'
  | .cnt ρ S => ∀ F' ι' α' σ' H', Rel p Pr ρ S F' ι' α' σ' H' → LeH F F' → LeA ι ι' → D.ct σ' H'
def FS (p : Pg) (X : Cx) (ρ : Env') (S : Store) (st : Stmt) (r : Option Out) : Prop :=
  ∀ Pr F ι α σ H, Rel p Pr ρ S F ι α σ H → ∀ o, r = some o → ∀ D : Ends, Meets p Pr F ι D o → wS X st D σ H
def FSs (p : Pg) (X : Cx) (ρ : Env') (S : Store) (sts : List Stmt) (r : Option Out) : Prop :=
  ∀ Pr F ι α σ H, Rel p Pr ρ S F ι α σ H → ∀ o, r = some o → ∀ D : Ends, Meets p Pr F ι D o → wSs X sts D σ H
theorem Meets.le {p : Pg} {Pr F F' : Hp} {ι ι' : List Addr} {D : Ends} {o : Out} (l : LeH F F') (m : LeA ι ι') (h : Meets p Pr F ι D o) : Meets p Pr F' ι' D o := by
  cases o with
  | nxt ρ S => exact fun F2 ι2 α σ H R l2 m2 => h F2 ι2 α σ H R (l.trans l2) (m.trans m2)
  | ret d S => exact fun v F2 ι2 H W l2 m2 r => h v F2 ι2 H W (l.trans l2) (m.trans m2) r
  | brk ρ S => exact fun F2 ι2 α σ H R l2 m2 => h F2 ι2 α σ H R (l.trans l2) (m.trans m2)
  | cnt ρ S => exact fun F2 ι2 α σ H R l2 m2 => h F2 ι2 α σ H R (l.trans l2) (m.trans m2)
def Rel0 {p : Pg} {Pr : Hp} {S : Store} {F : Hp} {ι : List Addr} {H : Hp} (α : Nat → Addr) (σ : L2.St) (W : Wd p Pr S F ι H) : Rel p Pr [] S F ι α σ H := ⟨W, fun i d h => by simp at h, fun i d h => by simp at h, Nat.zero_le _, fun i j d e h => by simp at h⟩
section
variable {p : Pg} {N : List Str} {sc : Scope} {fn : Str → Bool} {k : Nat} {X : Cx} {G : Fns} {ρ : Env'} {S : Store} {e ea eb ec tg : Expr} {pos : Pos} {a b c : Ex} {st : Stmt} {sts : List Stmt}
/-- behind a loop: the lock off -/
theorem Meets.free {Pr F F1 : Hp} {ι ι1 : List Addr} {D : Ends} {o o' : Out} {Lk : Option (Addr × HO)} {lk : Option (Nat × Z.D)} (fo : FreeOk X p Pr Lk lk F1 ι1) (l : LeH F F1) (m : LeA ι ι1) (e : o.after lk = some o') (h : Meets p Pr F ι D o') :
    Meets p (lkP Pr Lk) F1 ι1 ⟨fun σ' => Unl X (D.nx σ'), fun v => Unl X (D.rt v), fun σ' => Unl X (D.nx σ'), fun σ' => Unl X (D.nx σ')⟩ o := by
  cases o with
  | nxt ρ S =>
    obtain ⟨S', e1, e2⟩ := Option.map_eq_some_iff.mp e
    cases e2
    intro F2 ι2 α σ H R l2 m2
    obtain ⟨H3, R3, _, u⟩ := fo R l2 m2 e1
    exact u _ (h F2 ι2 α σ H3 R3 (l.trans l2) (m.trans m2))
  | ret d S =>
    obtain ⟨S', e1, e2⟩ := Option.map_eq_some_iff.mp e
    cases e2
    intro v F2 ι2 H W l2 m2 r
    obtain ⟨H3, R3, _, u⟩ := fo (Rel0 (fun _ => 0) [] W) l2 m2 e1
    exact u _ (h v F2 ι2 H3 R3.wd (l.trans l2) (m.trans m2) r)
  | brk ρ S =>
    obtain ⟨S', e1, e2⟩ := Option.map_eq_some_iff.mp e
    cases e2
    intro F2 ι2 α σ H R l2 m2
    obtain ⟨H3, R3, _, u⟩ := fo R l2 m2 e1
    exact u _ (h F2 ι2 α σ H3 R3 (l.trans l2) (m.trans m2))
  | cnt ρ S =>
    obtain ⟨S', e1, e2⟩ := Option.map_eq_some_iff.mp e
    cases e2
    intro F2 ι2 α σ H R l2 m2
    obtain ⟨H3, R3, _, u⟩ := fo R l2 m2 e1
    exact u _ (h F2 ι2 α σ H3 R3 (l.trans l2) (m.trans m2))

theorem fss_nil : FSs p X ρ S [] (evSs G .nil ρ S) := by
  intro Pr F ι α σ H R o e D h
  rw [evSs] at e; cases e
  exact wSs_of pss_nil (h F ι α σ H R (LeH.refl _) (LeA.refl _))
theorem fss_cons {s : Sm} {r : Sms} (h1 : FS p X ρ S st (evS G s ρ S)) (h2 : ∀ ρ S, FSs p X ρ S sts (evSs G r ρ S)) : FSs p X ρ S (st :: sts) (evSs G (.cons s r) ρ S) := by
  intro Pr F ι α σ H R o e D h
  rw [evSs] at e
  obtain ⟨o1, e1, e⟩ := Option.bind_eq_some_iff.mp e
  refine wSs_of (pss_cons psW pssW) (h1 Pr F ι α σ H R o1 e1 _ ?_)
  cases o1 with
  | nxt ρ' S' => exact fun F' ι' α' σ' H' R' l m => h2 ρ' S' Pr F' ι' α' σ' H' R' o e _ (h.le l m)
  | ret d S' => cases e; exact h
  | brk ρ' S' => cases e; exact h
  | cnt ρ' S' => cases e; exact h
/-- a name's own container is not changed any more -/
theorem fss_frz {i : Nat} {r : Sms} (h : ∀ ρ S, FSs p X ρ S sts (evSs G r ρ S)) : FSs p X ρ S sts (evSs G (.frz i r) ρ S) := by
  intro Pr F ι α σ H R o e D hD
  rw [evSs] at e
  split at e
  · rename_i d hi
    obtain ⟨k1, k2, k3, k4, k5⟩ := R.own i d hi
    -- the rest without the name
    have R0 : Rel p Pr (ρ.set i .un) S F ι α σ H := {
      wd := R.wd
      fz := fun j e q => by
        rcases getElem?_set_slot q with ⟨_, _, z⟩ | ⟨_, q⟩
        · cases z
        · exact R.fz j e q
      own := fun j e q => by
        rcases getElem?_set_slot q with ⟨_, _, z⟩ | ⟨_, q⟩
        · cases z
        · exact R.own j e q
      lng := by rw [List.length_set]; exact R.lng
      inj := fun j l e e' q1 q2 z => by
        rcases getElem?_set_slot q1 with ⟨_, _, y⟩ | ⟨_, q1⟩
        · cases y
        · rcases getElem?_set_slot q2 with ⟨_, _, y⟩ | ⟨_, q2⟩
          · cases y
          · exact R.inj _ _ _ _ q1 q2 z }
    have f : Fr p Pr (ρ.set i .un) F ι α H (α i) d := ⟨k4, k2, k3, k5, fun j e q z => by
      rcases getElem?_set_slot q with ⟨_, _, y⟩ | ⟨ne, q⟩
      · cases y
      · exact ne (R.inj _ _ _ _ q hi z).symm⟩
    obtain ⟨F', R1, l1, r1⟩ := R0.freeze f
    have R2 := R1.setFz (i := i) r1
    have e1 : (ρ.set i .un).set i (.fz d) = ρ.set i (.fz d) := List.set_set _
    have e2 : σ.set i (some (.ref (α i))) = σ := by
      apply List.ext_getElem?
      intro n
      by_cases hn : i = n
      · subst hn
        have hl : i < σ.length := (List.getElem?_eq_some_iff.mp k1).1
        rw [List.getElem?_set_self hl, k1]
      · rw [List.getElem?_set_ne hn]
    rw [e1, e2] at R2
    exact h _ _ Pr F' ι α σ H R2 o e D (hD.le l1 (LeA.refl _))
  · cases e
theorem fs_pass : FS p X ρ S (.Pass pos) (evS G .pass ρ S) := by
  intro Pr F ι α σ H R o e D h
  rw [evS] at e; cases e
  exact wS_of ps_pass (h F ι α σ H R (LeH.refl _) (LeA.refl _))
theorem fs_doc {x : Str} {j : Nat} {pos' : Pos} : FS p X ρ S (.Expr (.Constant (.str x) j pos) pos') (evS G .pass ρ S) := by
  intro Pr F ι α σ H R o e D h
  rw [evS] at e; cases e
  exact wS_of ps_doc (h F ι α σ H R (LeH.refl _) (LeA.refl _))
theorem fs_brk : FS p X ρ S (.Break pos) (evS G .brk ρ S) := by
  intro Pr F ι α σ H R o e D h
  rw [evS] at e; cases e
  exact wS_of ps_break (h F ι α σ H R (LeH.refl _) (LeA.refl _))
theorem fs_cnt : FS p X ρ S (.Continue pos) (evS G .cnt ρ S) := by
  intro Pr F ι α σ H R o e D h
  rw [evS] at e; cases e
  exact wS_of ps_continue (h F ι α σ H R (LeH.refl _) (LeA.refl _))
theorem fs_retN : FS p X ρ S (.Return none pos) (evS G .retN ρ S) := by
  intro Pr F ι α σ H R o e D h
  rw [evS] at e; cases e
  exact wS_of ps_retN (h .non F ι H R.wd (LeH.refl _) (LeA.refl _) .non)
theorem fs_ret (ha : FE p X ρ S ea (evE G a ρ S)) : FS p X ρ S (.Return (some ea) pos) (evS G (.ret a) ρ S) := by
  intro Pr F ι α σ H R o e D h
  rw [evS] at e
  obtain ⟨⟨d, S1⟩, e1, e2⟩ := Option.map_eq_some_iff.mp e
  cases e2
  exact wS_of (ps_ret peW) (ha Pr F ι α σ H R _ _ e1 _ fun v F' ι' H' R' l m r => h v F' ι' H' R'.wd l m r)
theorem fs_expr (hs : swapsWith ea none pos.line X.env = pure false) (ha : FE p X ρ S ea (evE G a ρ S)) : FS p X ρ S (.Expr ea pos) (evS G (.expr a) ρ S) := by
  intro Pr F ι α σ H R o e D h
  rw [evS] at e
  obtain ⟨⟨d, S1⟩, e1, e2⟩ := Option.map_eq_some_iff.mp e
  cases e2
  exact wS_of (ps_expr peW hs) (ha Pr F ι α σ H R _ _ e1 _ fun v F' ι' H' R' l m r => h F' ι' α σ H' R' l m)
theorem fs_ife {sa sb : List Stmt} {ra rb : Sms} (hc : FT p X ρ S ec (evE G c ρ S)) (ha : ∀ ρ S, FSs p X ρ S sa (evSs G ra ρ S)) (hb : ∀ ρ S, FSs p X ρ S sb (evSs G rb ρ S)) : FS p X ρ S (.If ec sa sb pos) (evS G (.ife c ra rb) ρ S) := by
  intro Pr F ι α σ H R o e D h
  rw [evS] at e
  obtain ⟨⟨u, S1⟩, e1, e⟩ := Option.bind_eq_some_iff.mp e
  obtain ⟨q, e2, e3⟩ := Option.bind_eq_some_iff.mp e
  cases blOf_eq e2
  refine wS_of (ps_if ptW pssW pssW) (hc Pr F ι α σ H R _ _ e1 _ fun F' ι' H' R' l m => ?_)
  by_cases hq : q = true
  · rw [if_pos hq] at e3 ⊢
    exact ha ρ S1 Pr F' ι' α σ H' R' o e3 D (h.le l m)
  · rw [if_neg hq] at e3 ⊢
    exact hb ρ S1 Pr F' ι' α σ H' R' o e3 D (h.le l m)
theorem wG_of {v : V} {σ : L2.St} {H : Hp} {Q : L2.St → Hp → Prop} {g : TG} (h : PG X tg g) (q : g v σ H Q) : wG X tg v σ H Q := fun pins s u I r => h.run pins s σ H v u Q I r q
/-- a target that is a name or names -/
def nmTg : Expr → Bool
  | .Name _ _ => true
  | .Tuple _ _ _ => true
  | _ => false
theorem nmTg_each (h : nmTg tg = true) : (assignEach [tg] X.env).map (·.2) = [assign tg X.env] := by
  cases tg <;> first | rfl | cases h
theorem fs_asg {t : Tg} (hs : swapsWithSole [tg] ea pos.line X.env = pure false) (hw : swappedStores [tg] ea X.env = pure none) (hn : nmTg tg = true) (ht : FG p X t tg) (ha : FE p X ρ S ea (evE G a ρ S)) : FS p X ρ S (.Assign [tg] ea pos) (evS G (.asg t a) ρ S) := by
  intro Pr F ι α σ H R o e D h
  rw [evS] at e
  obtain ⟨⟨d, S1⟩, e1, e⟩ := Option.bind_eq_some_iff.mp e
  obtain ⟨ρ', e2, e3⟩ := Option.map_eq_some_iff.mp e
  cases e3
  refine wS_of (ps_asg peW pgW hs hw (nmTg_each hn)) (ha Pr F ι α σ H R _ _ e1 _ fun v F' ι' H' R' l m r => ?_)
  exact ht R' r e2 _ fun σ' R2 _ => h F' ι' α σ' H' R2 l m
theorem own_ok {i : Nat} {d : D} {S1 : Store} {o : Out} (e : (match d with
      | .lst xs => some (Out.nxt (ρ.set i (.own (.lst xs))) S1)
      | .dK xs => some (.nxt (ρ.set i (.own (.dK xs))) S1)
      | .dT xs => some (.nxt (ρ.set i (.own (.dT xs))) S1)
      | _ => none) = some o) : o = .nxt (ρ.set i (.own d)) S1 := by
  cases d <;> first | (cases e; rfl) | cases e
theorem fs_own {i : Nat} {x : Str} {ps : Pos} (g : Good p N sc fn k X) (hs : swapsWith ea (some (.Name x ps)) pos.line X.env = pure false) (hN : N[i]? = some x) (hl : Loc sc x) (hf : fn x = true ∨ sc.names.lookup x = some .local) (ha : FN p X ρ S ea (evE G a ρ S)) :
    FS p X ρ S (.Assign [.Name x ps] ea pos) (evS G (.own i a) ρ S) := by
  intro Pr F ι α σ H R o e D h
  rw [evS] at e
  split at e
  case isFalse => cases e
  obtain ⟨⟨d, S1⟩, e1, e⟩ := Option.bind_eq_some_iff.mp e
  cases own_ok e
  refine wS_of (ps_set (i := i) (by rw [g.hN]; exact g.nd) (by rw [g.hN]; exact hN) (by rw [g.sc]; exact hl) peW hs (by rw [g.fn, g.sc]; exact hf)) (ha Pr F ι α σ H R _ _ e1 _ fun b F' ι' H' R' l m f => ?_)
  exact h F' ι' _ _ H' (R'.setOwn f) l m
/-- name = [.. for ..] -/
theorem fs_ownC {i : Nat} {x : Str} {ps : Pos} {elt iter : Expr} {ifs : List Expr} {cp : Pos} {scope : Scope} {t : Tg} {it : It} {cc : Ar} {own : List (Str × Nat)} (g : Good p N sc fn k X) (hsw : swapsWith (.ListComp elt [⟨tg, iter, ifs, 0⟩] scope cp) (some (.Name x ps)) pos.line X.env = pure true)
    (hN : N[i]? = some x) (hl : sc.names.lookup x = some .local) (hi : FI p X ρ S tg iter (evI G it ρ S)) (ok : BlkOk N sc scope own) (hix : own.map (·.2) = t.ix)
    (hg : ∀ X', Good p N (relS scope sc) (fnB scope) k X' → FG p X' t tg) (hc : FC p G (Good p N (relS scope sc) (fnB scope) k) ifs cc) (he : ∀ X', Good p N (relS scope sc) (fnB scope) k X' → ∀ ρ S, FE p X' ρ S elt (evE G a ρ S))
    (hs : ∀ x, foldedSetIterable iter X.env x = pure x) : FS p X ρ S (.Assign [.Name x ps] (.ListComp elt [⟨tg, iter, ifs, 0⟩] scope cp) pos) (evS G (.own i (.comp t it cc a)) ρ S) := by
  obtain ⟨gT, tt, tE, pg, pt, pe, hh⟩ := comp_core g hi ok hix hg hc he
  intro Pr F ι α σ H R o e D h
  rw [evS] at e
  split at e
  case isFalse => cases e
  obtain ⟨⟨d, S1⟩, e1, e⟩ := Option.bind_eq_some_iff.mp e
  cases own_ok e
  refine wS_unl (wS_of (ps_setLc (i := i) (own := own) g.calm (by rw [g.hN]; exact g.nd) (by rw [g.hN]; exact hN) (by rw [g.sc]; exact hl) hsw piW (by rw [g.hN, g.sc]; exact ok) pg pt pe hs) ?_)
  exact hh Pr F ι α σ H R _ _ e1 (fun v H1 => D.nx (σ.set i (some v)) H1) fun b F' ι' H' R' l m f => h F' ι' _ _ H' (R'.setOwn f) l m
theorem fs_asgC {i : Nat} {x : Str} {ps : Pos} {elt iter : Expr} {ifs : List Expr} {cp : Pos} {scope : Scope} {t : Tg} {it : It} {cc : Ar} {own : List (Str × Nat)} (g : Good p N sc fn k X) (hsw : swapsWith (.ListComp elt [⟨tg, iter, ifs, 0⟩] scope cp) (some (.Name x ps)) pos.line X.env = pure true)
    (hN : N[i]? = some x) (hl : sc.names.lookup x = some .local) (hi : FI p X ρ S tg iter (evI G it ρ S)) (ok : BlkOk N sc scope own) (hix : own.map (·.2) = t.ix)
    (hg : ∀ X', Good p N (relS scope sc) (fnB scope) k X' → FG p X' t tg) (hc : FC p G (Good p N (relS scope sc) (fnB scope) k) ifs cc) (he : ∀ X', Good p N (relS scope sc) (fnB scope) k X' → ∀ ρ S, FE p X' ρ S elt (evE G a ρ S))
    (hs : ∀ x, foldedSetIterable iter X.env x = pure x) : FS p X ρ S (.Assign [.Name x ps] (.ListComp elt [⟨tg, iter, ifs, 0⟩] scope cp) pos) (evS G (.asg (.nm i) (.comp t it cc a)) ρ S) := by
  obtain ⟨gT, tt, tE, pg, pt, pe, hh⟩ := comp_core g hi ok hix hg hc he
  intro Pr F ι α σ H R o e D h
  rw [evS] at e
  obtain ⟨⟨d, S1⟩, e1, e⟩ := Option.bind_eq_some_iff.mp e
  obtain ⟨ρ', e2, e3⟩ := Option.map_eq_some_iff.mp e
  cases e3
  cases e2
  refine wS_unl (wS_of (ps_setLc (i := i) (own := own) g.calm (by rw [g.hN]; exact g.nd) (by rw [g.hN]; exact hN) (by rw [g.sc]; exact hl) hsw piW (by rw [g.hN, g.sc]; exact ok) pg pt pe hs) ?_)
  refine hh Pr F ι α σ H R _ _ e1 (fun v H1 => D.nx (σ.set i (some v)) H1) fun b F' ι' H' R' l m f => ?_
  obtain ⟨F2, R2, l2, r2⟩ := R'.freeze f
  exact h F2 ι' _ _ H' (R2.setFz r2) (l.trans l2) m
theorem fs_asgCm {i : Nat} {x : Str} {ps : Pos} {elt iter : Expr} {ifs : List Expr} {cp : Pos} {scope : Scope} {t : Tg} {it : It} {cc : Ar} {own : List (Str × Nat)} (g : Good p N sc fn k X) (hsw : swapsWith (.ListComp elt [⟨tg, iter, ifs, 0⟩] scope cp) (some (.Name x ps)) pos.line X.env = pure true)
    (hN : N[i]? = some x) (hl : sc.names.lookup x = some .local) (hi : FI p X ρ S tg iter (evI G it ρ S)) (ok : BlkOk N sc scope own) (hix : own.map (·.2) = t.ix)
    (hg : ∀ X', Good p N (relS scope sc) (fnB scope) k X' → FG p X' t tg) (hc : FC p G (Good p N (relS scope sc) (fnB scope) k) ifs cc) (he : ∀ X', Good p N (relS scope sc) (fnB scope) k X' → ∀ ρ S, FE p X' ρ S elt (evE G a ρ S))
    (hs : ∀ x, foldedSetIterable iter X.env x = pure x) : FS p X ρ S (.Assign [.Name x ps] (.ListComp elt [⟨tg, iter, ifs, 0⟩] scope cp) pos) (evS G (.asg (.nm i) (.mref (.comp t it cc a))) ρ S) := by
  obtain ⟨gT, tt, tE, pg, pt, pe, hh⟩ := comp_core g hi ok hix hg hc he
  intro Pr F ι α σ H R o e D h
  rw [evS, evE] at e
  obtain ⟨⟨d, S1⟩, e1, e⟩ := Option.bind_eq_some_iff.mp e
  obtain ⟨⟨d0, S0⟩, e0, e1⟩ := Option.bind_eq_some_iff.mp e1
  obtain ⟨ρ', e2, e3⟩ := Option.map_eq_some_iff.mp e
  cases e3
  cases e2
  refine wS_unl (wS_of (ps_setLc (i := i) (own := own) g.calm (by rw [g.hN]; exact g.nd) (by rw [g.hN]; exact hN) (by rw [g.sc]; exact hl) hsw piW (by rw [g.hN, g.sc]; exact ok) pg pt pe hs) ?_)
  refine hh Pr F ι α σ H R _ _ e0 (fun v H1 => D.nx (σ.set i (some v)) H1) fun b F' ι' H' R' l m f => ?_
  obtain ⟨R2, at2⟩ := R'.addCell f
  cases d0 <;> simp only [newRef] at e1 <;> first
    | (cases e1; exact h F' _ _ _ H' (R2.setFz (.ref at2)) l (m.trans (LeA.app _ _)))
    | (cases e1)
theorem fs_par2 {i j : Nat} {x y : Str} {px py pt : Pos} {kt k2 : Nat} {pt2 : Pos} {as : Ar} (g : Good p N sc fn k X) (hi : N[i]? = some x) (hj : N[j]? = some y) (hij : i ≠ j) (hx : sc.names.lookup x = some .local) (hy : sc.names.lookup y = some .local)
    (hw : swappedStores [.Tuple [.Name x px, .Name y py] kt pt] (.Tuple [ea, eb] k2 pt2) X.env = pure (some [x, y])) (hs : swapsWithSole [.Tuple [.Name x px, .Name y py] kt pt] (.Tuple [ea, eb] k2 pt2) pos.line X.env = pure false)
    (ha : FA p X ρ S [ea, eb] (evA G as ρ S)) : FS p X ρ S (.Assign [.Tuple [.Name x px, .Name y py] kt pt] (.Tuple [ea, eb] k2 pt2) pos) (evS G (.par [i, j] as) ρ S) := by
  intro Pr F ι α σ H R o e D h
  rw [evS] at e
  obtain ⟨⟨ds, S1⟩, e1, e⟩ := Option.bind_eq_some_iff.mp e
  split at e
  case isFalse => cases e
  rename_i hl
  cases e
  refine wS_of (ps_par g.calm (by rw [g.hN]; exact g.nd) (by rw [g.hN]; exact hi) (by rw [g.hN]; exact hj) hij (by rw [g.sc]; exact hx) (by rw [g.sc]; exact hy) paW hw hs) (ha Pr F ι α σ H R _ _ e1 _ fun vs F' ι' H' R' l m rs => ?_)
  have hl : ds.length = 2 := hl
  cases rs with
  | nil => cases hl
  | cons r1 rs =>
  cases rs with
  | nil => cases hl
  | cons r2 rs =>
  cases rs with
  | cons _ _ => simp at hl
  | nil => exact ⟨_, _, rfl, h F' ι' α _ H' ((R'.setFz (i := i) r1).setFz (i := j) r2) l m⟩
theorem fs_par3 {i j l : Nat} {x y z : Str} {px py pz pt : Pos} {kt k2 : Nat} {pt2 : Pos} {as : Ar} (g : Good p N sc fn k X) (hi : N[i]? = some x) (hj : N[j]? = some y) (hl : N[l]? = some z) (hij : i ≠ j) (hil : i ≠ l) (hjl : j ≠ l)
    (hx : sc.names.lookup x = some .local) (hy : sc.names.lookup y = some .local) (hz : sc.names.lookup z = some .local)
    (hw : swappedStores [.Tuple [.Name x px, .Name y py, .Name z pz] kt pt] (.Tuple [ea, eb, ec] k2 pt2) X.env = pure (some [x, y, z])) (hs : swapsWithSole [.Tuple [.Name x px, .Name y py, .Name z pz] kt pt] (.Tuple [ea, eb, ec] k2 pt2) pos.line X.env = pure false)
    (ha : FA p X ρ S [ea, eb, ec] (evA G as ρ S)) : FS p X ρ S (.Assign [.Tuple [.Name x px, .Name y py, .Name z pz] kt pt] (.Tuple [ea, eb, ec] k2 pt2) pos) (evS G (.par [i, j, l] as) ρ S) := by
  intro Pr F ι α σ H R o e D h
  rw [evS] at e
  obtain ⟨⟨ds, S1⟩, e1, e⟩ := Option.bind_eq_some_iff.mp e
  split at e
  case isFalse => cases e
  rename_i hlen
  cases e
  refine wS_of (ps_par3 g.calm (by rw [g.hN]; exact g.nd) (by rw [g.hN]; exact hi) (by rw [g.hN]; exact hj) (by rw [g.hN]; exact hl) hij hil hjl (by rw [g.sc]; exact hx) (by rw [g.sc]; exact hy) (by rw [g.sc]; exact hz) paW hw hs) (ha Pr F ι α σ H R _ _ e1 _ fun vs F' ι' H' R' l' m rs => ?_)
  have hlen : ds.length = 3 := hlen
  cases rs with
  | nil => cases hlen
  | cons r1 rs =>
  cases rs with
  | nil => cases hlen
  | cons r2 rs =>
  cases rs with
  | nil => cases hlen
  | cons r3 rs =>
  cases rs with
  | cons _ _ => simp at hlen
  | nil => exact ⟨_, _, _, rfl, h F' ι' α _ H' (((R'.setFz (i := i) r1).setFz (i := j) r2).setFz (i := l) r3) l' m⟩
theorem fs_aug {i : Nat} {x : Str} {op : Operator} {ps : Pos} (g : Good p N sc fn k X) (hN : N[i]? = some x) (hl : Loc sc x) (hf : fn x = true ∨ sc.names.lookup x = some .local) (ha : FE p X ρ S ea (evE G a ρ S)) : FS p X ρ S (.AugAssign (.Name x ps) op ea pos) (evS G (.aug i op a) ρ S) := by
  intro Pr F ι α σ H R o e D h
  rw [evS] at e
  obtain ⟨⟨d, S1⟩, e1, e⟩ := Option.bind_eq_some_iff.mp e
  split at e
  case h_2 => cases e
  rename_i u hu
  obtain ⟨v, hv, ru⟩ := R.fz i u hu
  cases u <;> try cases e
  cases d <;> try cases e
  cases ru
  rename_i ii jj
  have pv : ∀ v, Rep p.K F ι v (.int ii) → v = .int ii := fun v r => by cases r; rfl
  cases op <;> try cases e
  · refine wS_of (ps_aug (i := i) (by rw [g.hN]; exact g.nd) (by rw [g.hN]; exact hN) (by rw [g.sc]; exact hl) peW iop_add (by rw [g.fn, g.sc]; exact hf)) ⟨_, hv, ha Pr F ι α σ H R _ _ e1 _ fun v F' ι' H' R' l m r => ?_⟩
    cases r
    exact ⟨_, _, rfl, rfl, h F' ι' α _ H' (R'.setFz (.int _)) l m⟩
  · refine wS_of (ps_aug (i := i) (by rw [g.hN]; exact g.nd) (by rw [g.hN]; exact hN) (by rw [g.sc]; exact hl) peW iop_sub (by rw [g.fn, g.sc]; exact hf)) ⟨_, hv, ha Pr F ι α σ H R _ _ e1 _ fun v F' ι' H' R' l m r => ?_⟩
    cases r
    exact ⟨_, _, rfl, rfl, h F' ι' α _ H' (R'.setFz (.int _)) l m⟩
theorem fs_while {body : List Stmt} {rb : Sms} (g : Good p N sc fn k X) (hc : ∀ ρ S, FT p X ρ S ec (evE G c ρ S)) (hb : ∀ ρ S, FSs p X ρ S body (evSs G rb ρ S)) : FS p X ρ S (.While ec body [] pos) (evS G (.while_ c rb) ρ S) := by
  intro Pr F ι α σ H R o e D h
  rw [evS] at e
  refine wS_of (ps_while (by rw [g.xe]; exact PassesOwn.never) ptW pssW) ⟨fun m σ H => ∃ ρ S F' ι' α', Rel p Pr ρ S F' ι' α' σ H ∧ LeH F F' ∧ LeA ι ι' ∧ whGo (fun ρ' S' => (evE G c ρ' S').bind fun x => (blOf x.1).map fun k => (k, x.2)) (fun ρ' S' => evSs G rb ρ' S') m ρ S = some o,
    ⟨_, ρ, S, F, ι, α, R, LeH.refl _, LeA.refl _, e⟩, ?_⟩
  intro m σ1 H1 ⟨ρ1, S1, F1, ι1, α1, R1, l1, m1, e1⟩
  cases m with
  | zero => cases e1
  | succ m =>
  simp only [whGo] at e1
  obtain ⟨⟨b, S2⟩, e2, e1⟩ := Option.bind_eq_some_iff.mp e1
  obtain ⟨⟨u, S3⟩, e3, e4⟩ := Option.bind_eq_some_iff.mp e2
  obtain ⟨b', e5, e6⟩ := Option.map_eq_some_iff.mp e4
  cases e6
  cases blOf_eq e5
  refine hc ρ1 S1 Pr F1 ι1 α1 σ1 H1 R1 _ _ e3 _ fun F2 ι2 H2 R2 l2 m2 => ?_
  by_cases hb' : b = true
  · rw [if_pos hb'] at e1 ⊢
    obtain ⟨o2, e7, e8⟩ := Option.bind_eq_some_iff.mp e1
    refine ⟨fun σ' H' => ∃ ρ S F' ι' α', Rel p Pr ρ S F' ι' α' σ' H' ∧ LeH F F' ∧ LeA ι ι' ∧ whGo (fun ρ' S' => (evE G c ρ' S').bind fun x => (blOf x.1).map fun k => (k, x.2)) (fun ρ' S' => evSs G rb ρ' S') m ρ S = some o, fun σ' H' q => ⟨m, Nat.lt_succ_self _, q⟩, ?_⟩
    refine hb ρ1 _ Pr F2 ι2 α1 σ1 H2 R2 o2 e7 _ ?_
    cases o2 with
    | nxt ρ' S' => exact fun F3 ι3 α3 σ3 H3 R3 l3 m3 => ⟨ρ', S', F3, ι3, α3, R3, (l1.trans l2).trans l3, (m1.trans m2).trans m3, e8⟩
    | cnt ρ' S' => exact fun F3 ι3 α3 σ3 H3 R3 l3 m3 => ⟨ρ', S', F3, ι3, α3, R3, (l1.trans l2).trans l3, (m1.trans m2).trans m3, e8⟩
    | brk ρ' S' => cases e8; exact fun F3 ι3 α3 σ3 H3 R3 l3 m3 => h F3 ι3 α3 σ3 H3 R3 ((l1.trans l2).trans l3) ((m1.trans m2).trans m3)
    | ret d S' => cases e8; exact h.le (l1.trans l2) (m1.trans m2)
  · rw [if_neg hb'] at e1 ⊢
    cases e1
    exact h F2 ι2 α1 σ1 H2 R2 (l1.trans l2) (m1.trans m2)
theorem fs_for {iter : Expr} {body : List Stmt} {t : Tg} {it : It} {rb : Sms} (g : Good p N sc fn k X) (hi : FI p X ρ S tg iter (evI G it ρ S)) (ht : FG p X t tg) (hb : ∀ ρ S, FSs p X ρ S body (evSs G rb ρ S)) (hs : ∀ x, foldedSetIterable iter X.env x = pure x) :
    FS p X ρ S (.For tg iter body [] pos) (evS G (.for_ t it rb) ρ S) := by
  intro Pr F ι α σ H R o er Ds h
  rw [evS] at er
  obtain ⟨⟨w, xs, S1⟩, e1, er⟩ := Option.bind_eq_some_iff.mp er
  split at er
  case isFalse => cases er
  rename_i ns
  obtain ⟨⟨S2, lk⟩, e2, er⟩ := Option.bind_eq_some_iff.mp er
  obtain ⟨o1, e3, e4⟩ := Option.bind_eq_some_iff.mp er
  refine wS_unl (wS_of (ps_for (by rw [g.xe]; exact PassesOwn.never) g.calm piW pgW pssW hs) ?_)
  refine hi Pr F ι α σ H R w xs S1 e1 S2 lk e2 _ fun J v u Lk F1 ι1 H1 R1 l1 m1 hr c1 wk fo sb => ?_
  have hm := h.free fo l1 m1 e4
  obtain ⟨W, hW⟩ : ∃ W : Nat → Nat → L2.St → Hp → Prop, W = fun i m σ H => m = xs.length - i ∧ i ≤ xs.length ∧ ∃ ρ' S F ι α, Rel p (lkP Pr Lk) ρ' S F ι α σ H ∧ LeH F1 F ∧ LeA ι1 ι ∧ cont ρ' S w = some u ∧
      forGo (fun S' ρ' => cont ρ' S' w = cont ρ S2 w) (fun d ρ' S' => (bindT t d ρ').bind fun ρ2 => evSs G rb ρ2 S') (xs.drop i) ρ' S = some o1 := ⟨_, rfl⟩
  refine ⟨W, ⟨xs.length - 0, by rw [hW]; exact ⟨rfl, Nat.zero_le _, ρ, S2, F1, ι1, α, R1, LeH.refl _, LeA.refl _, c1, e3⟩⟩, ?_⟩
  intro i m σ2 H2 hw
  rw [hW] at hw
  obtain ⟨hm', hi2, ρ2, S, F2, ι2, α2, R2, l2, m2, cc, eg⟩ := hw
  have hr2 : HRep p F2 ι2 α2 v w := by
    cases w with
    | val d => exact Rep.le l2 m2 hr
    | slot j => cases ns
  have cv := cv_of R2 hr2 cc
  have lkk := R2.lkOk
  cases hx : xs[i]? with
  | none =>
    have hlen : xs.length ≤ i := List.getElem?_eq_none_iff.mp hx
    have : i = xs.length := by omega
    subst this
    refine .inl ⟨wk.stop R2.wd l2 m2 cv lkk, ?_⟩
    rw [List.drop_length] at eg
    cases eg
    exact hm F2 ι2 α2 σ2 H2 R2 l2 m2
  | some d =>
    have hil : i < xs.length := (List.getElem?_eq_some_iff.mp hx).1
    have hdrop : xs.drop i = d :: xs.drop (i + 1) := by
      rw [List.drop_eq_getElem_cons hil]
      congr 1
      exact (List.getElem?_eq_some_iff.mp hx).2
    rw [hdrop] at eg
    simp only [forGo] at eg
    obtain ⟨o2, f1, f2⟩ := Option.bind_eq_some_iff.mp eg
    obtain ⟨ρ3, f3, f4⟩ := Option.bind_eq_some_iff.mp f1
    obtain ⟨go, yl⟩ := wk.step hx R2.wd l2 m2 cv lkk
    refine .inr ⟨go, fun σ' H' => W (i + 1) (m - 1) σ' H', fun σ' H' q => ⟨m - 1, by omega, q⟩, fun x H' y => ?_⟩
    obtain ⟨F3, gr, rx⟩ := yl x H' y
    refine ht (R2.grow gr) rx f3 _ fun σ3 R3 _ => ?_
    refine hb ρ3 S _ F3 ι2 α2 σ3 H' R3 o2 f4 _ ?_
    have nxt : ∀ {ρ' S'}, cont ρ' S' w = cont ρ S2 w → forGo (fun S' ρ' => cont ρ' S' w = cont ρ S2 w) (fun d ρ' S' => (bindT t d ρ').bind fun ρ2 => evSs G rb ρ2 S') (xs.drop (i + 1)) ρ' S' = some o1 →
        ∀ F' ι' α' σ' H', Rel p (lkP Pr Lk) ρ' S' F' ι' α' σ' H' → LeH F3 F' → LeA ι2 ι' → W (i + 1) (m - 1) σ' H' := fun {ρ' S'} kp f F' ι' α' σ' H' R' l m' => by
      rw [hW]
      exact ⟨by omega, hil, ρ', S', F', ι', α', R', (l2.trans gr.f).trans l, m2.trans m', by rw [kp]; exact c1, f⟩
    cases o2 with
    | nxt ρ' S' =>
      simp only at f2
      split at f2
      · rename_i kp; exact nxt kp f2
      · cases f2
    | cnt ρ' S' =>
      simp only at f2
      split at f2
      · rename_i kp; exact nxt kp f2
      · cases f2
    | brk ρ' S' =>
      simp only at f2
      split at f2
      · cases f2
        exact fun F' ι' α' σ' H' R' l m' => hm F' ι' α' σ' H' R' ((l2.trans gr.f).trans l) (m2.trans m')
      · cases f2
    | ret d' S' =>
      simp only at f2
      split at f2
      · cases f2
        exact fun v' F' ι' H' W' l m' r => hm v' F' ι' H' W' ((l2.trans gr.f).trans l) (m2.trans m') r
      · cases f2
end
end Z

set_option Elab.async false
set_option linter.all false
set_option maxRecDepth 100000
set_option maxHeartbeats 4000000
namespace Z
open PySem PySem.Spec PyProof.Rows L2
section
variable {p : Pg} {Pr : Hp} {ρ : Env'} {S : Store} {F : Hp} {ι : List Addr} {α : Nat → Addr} {σ : L2.St} {H : Hp}
theorem putC_ok {x : V} {h : Hd} {u d : D} {ρ' : Env'} {S' : Store} (R : Rel p Pr ρ S F ι α σ H) (r : HRep p F ι α x h) (c : cont ρ S h = some u) (hp : putC ρ S h d = some (ρ', S')) :
    ∃ a, x = .ref a ∧ CRep p.K F ι H a u ∧ ∀ o, (∀ G : Hp, G a = some o → CRep p.K F ι G a d) → Rel p Pr ρ' S' F ι α σ (upd H a o) := by
  cases h with
  | slot i =>
    simp only [cont] at c
    split at c
    · rename_i w hi
      cases c
      cases hp
      exact ⟨α i, r, (R.own i u hi).2.2.2.1, fun o ho => R.putOwn hi (ho _ upd_same)⟩
    · cases c
  | val v =>
    cases v <;> try cases hp
    rename_i n
    simp only [putC] at hp
    obtain ⟨S2, h1, h2⟩ := Option.map_eq_some_iff.mp hp
    cases h2
    simp only [setC] at h1
    split at h1
    · rename_i w hc
      cases h1
      simp only [cont, hc] at c
      cases c
      cases (show Rep p.K F ι x (.ref n) from r) with
      | @ref n a hn =>
      obtain ⟨b, hb, hF, q⟩ := R.wd.at hc
      rw [hn] at hb; cases hb
      refine ⟨a, rfl, q, fun o ho => R.put hn ?_ (ho _ upd_same)⟩
      cases z : Pr a with
      | none => rfl
      | some u =>
        obtain ⟨d, y⟩ := (R.wd.prot a u z).2.2 n _ hn hc
        cases y
    · cases h1
theorem fput_ok {K : PySem.W.Frag} {v : V} {d : D} {f : Str} (r : Rep K F ι v d) : ∀ {fv : List (Str × V)} {fs : List (Str × D)}, fv.map (·.1) = fs.map (·.1) → Reps K F ι (fv.map (·.2)) (fs.map (·.2)) →
    (putF f v fv).map (·.1) = (setF.fput fs f d).map (·.1) ∧ Reps K F ι ((putF f v fv).map (·.2)) ((setF.fput fs f d).map (·.2))
  | [], [], _, _ => ⟨rfl, .cons r .nil⟩
  | [], _ :: _, e, _ => by cases e
  | _ :: _, [], e, _ => by cases e
  | (g, x) :: fv, (g', y) :: fs, e, rs => by
    simp only [List.map_cons, List.cons.injEq] at e
    obtain ⟨e1, e2⟩ := e
    subst e1
    cases rs with
    | cons r1 r2 =>
    obtain ⟨h1, h2⟩ := fput_ok r e2 r2
    simp only [putF, setF.fput]
    by_cases hg : g = f
    · rw [if_pos hg, if_pos hg]
      exact ⟨by simp [e2], .cons r r2⟩
    · rw [if_neg hg, if_neg hg]
      exact ⟨by simp [h1], .cons r1 h2⟩
theorem map_set' {β : Type} (l : List β) (n : Nat) (x : β) : True := trivial
end
section
variable {p : Pg} {N : List Str} {sc : Scope} {fn : Str → Bool} {k : Nat} {X : Cx} {G : Fns} {ρ : Env'} {S : Store} {e ea eb ec eo tg : Expr} {pos : Pos} {a b c o : Ex} {st : Stmt} {sts : List Stmt}
theorem setF_ok {Pr F : Hp} {ι : List Addr} {α : Nat → Addr} {σ : L2.St} {H : Hp} {n : Nat} {x : V} {f : Str} {v : V} {d : D} {S' : Store} (g : Good p N sc fn k X) (gf : FldOk p G) (R : Rel p Pr ρ S F ι α σ H) (r : Rep p.K F ι x (.ref n)) (rv : Rep p.K F ι v d) (e : setF G S n f d = some S') :
    ∃ a C dx fs, x = .ref a ∧ H a = some (.ins C dx fs) ∧ Cls X.K C ∧ NoAttr X.K C f ∧ fs.length < 1000 ∧ Rel p Pr ρ S' F ι α σ (upd H a (.ins C dx (putF f v fs))) := by
  unfold setF at e
  split at e
  · rename_i C fs hc
    split at e
    · rename_i hl
      cases e
      cases r with
      | @ref n a hn =>
      obtain ⟨b, hb, hF, Ca, dx, fv, h1, h2, h3, h4⟩ := R.wd.at hc
      rw [hn] at hb; cases hb
      obtain ⟨c1, c2⟩ := gf.fld C f Ca hl.2 h1
      rw [← g.K] at c1 c2
      have hlen : fv.length = fs.length := by have := congrArg List.length h3; simpa using this
      obtain ⟨k1, k2⟩ := fput_ok (f := f) rv h3 h4
      refine ⟨a, Ca, dx, fv, rfl, h2, c1, c2, by rw [hlen]; exact hl.1, R.put hn ?_ ⟨Ca, dx, _, h1, upd_same, k1, k2⟩⟩
      cases z : Pr a with
      | none => rfl
      | some u =>
        obtain ⟨d, y⟩ := (R.wd.prot a u z).2.2 n _ hn hc
        cases y
    · cases e
  · cases e
theorem fs_setf {f : Str} {pos' : Pos} (g : Good p N sc fn k X) (gf : FldOk p G) (hs : swapsWith ea (some (.Attribute eo f pos')) pos.line X.env = pure false) (ho : ∀ S, FE p X ρ S eo (evE G o ρ S)) (ha : FE p X ρ S ea (evE G a ρ S)) :
    FS p X ρ S (.Assign [.Attribute eo f pos'] ea pos) (evS G (.setf o f a) ρ S) := by
  intro Pr F ι α σ H R o' e D h
  rw [evS] at e
  obtain ⟨⟨d, S1⟩, e1, e⟩ := Option.bind_eq_some_iff.mp e
  obtain ⟨⟨u, S2⟩, e2, e⟩ := Option.bind_eq_some_iff.mp e
  cases u <;> try cases e
  obtain ⟨S3, e3, e4⟩ := Option.map_eq_some_iff.mp e
  cases e4
  refine wS_of (ps_fld peW peW hs) (ha Pr F ι α σ H R _ _ e1 _ fun v F1 ι1 H1 R1 l1 m1 r1 => ho S1 Pr F1 ι1 α σ H1 R1 _ _ e2 _ fun x F2 ι2 H2 R2 l2 m2 r2 => ?_)
  obtain ⟨c, C, dx, fs, rfl, h2, h3, h4, h5, R3⟩ := setF_ok g gf R2 r2 (r1.le l2 m2) e3
  exact ⟨c, C, dx, fs, rfl, h2, h3, h4, h5, h F2 ι2 α σ _ R3 (l1.trans l2) (m1.trans m2)⟩
def wSet (X : Cx) : TSet := fun o i v H Q => ∀ pins s σ ov iv u, Inv X pins σ H s → RelV o ov → RelV i iv → RelV v u → wpAny (model X.prog X.w) X.A (setItem ov iv u) (fun _ s' => ∃ H', Inv X pins σ H' s' ∧ Q H') X.xe s
theorem wSet_ok : PSet X (wSet X) := fun pins s σ _ _ _ _ ov iv u _ I ro ri rv h => h pins s σ ov iv u I ro ri rv
theorem wSet_of {t : TSet} (h : PSet X t) {o i v : V} {H : Hp} {Q : Hp → Prop} (q : t o i v H Q) : wSet X o i v H Q := fun pins s σ ov iv u I ro ri rv => h pins s σ H o i v ov iv u Q I ro ri rv q
theorem set_ok {Pr F : Hp} {ι : List Addr} {α : Nat → Addr} {σ : L2.St} {H : Hp} {x y v : V} {h : Hd} {u kd d d' : D} {ρ' : Env'} {S' : Store} (g : Good p N sc fn k X) (R : Rel p Pr ρ S F ι α σ H) (r : HRep p F ι α x h) (ry : Rep p.K F ι y kd) (rv : Rep p.K F ι v d) (c : cont ρ S h = some u)
    (e1 : setItem' u kd d = some d') (e2 : putC ρ S h d' = some (ρ', S')) {Q : Hp → Prop} (q : ∀ H', Rel p Pr ρ' S' F ι α σ H' → Q H') : wSet X x y v H Q := by
  obtain ⟨a, rfl, cr, wr⟩ := putC_ok R r c e2
  have hu : X.A.units + 1 < cLine := by have := g.units; omega
  unfold setItem' at e1
  split at e1
  · rename_i xs i
    obtain ⟨j, h1, h2⟩ := Option.map_eq_some_iff.mp e1
    cases h2
    obtain ⟨vs, hH, rs⟩ := cr
    cases ry
    refine wSet_of set_list ⟨a, vs, _, j, rfl, rfl, hH, by rw [rs.length]; exact h1, q _ (wr _ fun G hG => ⟨_, hG, rs.set rv j⟩)⟩
  · rename_i es
    simp only [dset] at e1
    split at e1
    · rename_i key hk
      split at e1
      · rename_i hl
        cases e1
        obtain ⟨kvs, hH, k1, k2⟩ := cr
        have hy := keyK_rep ry hk
        subst hy
        have hlen : kvs.length = es.length := by have := congrArg List.length k1; simpa using this
        refine wSet_of (set_dict hu) ⟨a, _, rfl, .k hH (by rw [hlen]; exact hl), q _ (wr _ fun G hG => ?_)⟩
        obtain ⟨z1, z2⟩ := RKV.put key rv (⟨k1, k2⟩ : RKV p.K F ι kvs es)
        exact ⟨_, hG, z1, z2⟩
      · cases e1
    · cases e1
  · rename_i es
    simp only [dset] at e1
    split at e1
    · rename_i key hk
      split at e1
      · rename_i hl
        cases e1
        obtain ⟨kvs, hH, k1, k2⟩ := cr
        have hy : ∀ n, kd ≠ .ref n := fun n z => by subst z; cases hk
        obtain ⟨b, rfl, hb⟩ := keyT_cv (.of_rep R.wd.sub ry hy) hk
        have hlen : kvs.length = es.length := by have := congrArg List.length k1; simpa using this
        refine wSet_of (set_dict hu) ⟨a, _, rfl, .t hH hb (by rw [hlen]; exact hl), q _ (wr _ fun G hG => ?_)⟩
        obtain ⟨z1, z2⟩ := RKV.put key rv (⟨k1, k2⟩ : RKV p.K F ι kvs es)
        exact ⟨_, hG, z1, z2⟩
      · cases e1
    · cases e1
  · cases e1
theorem fs_seti {pos' : Pos} (g : Good p N sc fn k X) (hs : swapsWithSole [.Subscript eo eb pos'] ea pos.line X.env = pure false) (hw : swappedStores [.Subscript eo eb pos'] ea X.env = pure none)
    (hst : ∀ v, assign (.Subscript eo eb pos') X.env v = (do
      let ov ← holding [v] (eval eo X.env)
      let iv ← holding [v, ov] (eval eb X.env)
      standAt pos'
      holding [v, ov, iv] (setItem ov iv v)
      release [v, ov, iv] [])) (ho : ∀ S, FH p X ρ S eo (hOf o ρ S (evE G o ρ S))) (hb : ∀ S, FE p X ρ S eb (evE G b ρ S)) (ha : FE p X ρ S ea (evE G a ρ S)) :
    FS p X ρ S (.Assign [.Subscript eo eb pos'] ea pos) (evS G (.seti o b a) ρ S) := by
  intro Pr F ι α σ H R o' e D h
  rw [evS] at e
  obtain ⟨⟨d, S1⟩, e1, e⟩ := Option.bind_eq_some_iff.mp e
  obtain ⟨⟨w, S2⟩, e2, e⟩ := Option.bind_eq_some_iff.mp e
  obtain ⟨⟨kd, S3⟩, e3, e⟩ := Option.bind_eq_some_iff.mp e
  obtain ⟨u, e4, e⟩ := Option.bind_eq_some_iff.mp e
  obtain ⟨d', e5, e⟩ := Option.bind_eq_some_iff.mp e
  obtain ⟨⟨ρ', S4⟩, e6, e7⟩ := Option.map_eq_some_iff.mp e
  cases e7
  refine wS_of (ps_asg peW (pg_sub peW peW wSet_ok hst) hs hw rfl) (ha Pr F ι α σ H R _ _ e1 _ fun v F1 ι1 H1 R1 l1 m1 r1 => ho S1 Pr F1 ι1 α σ H1 R1 _ _ e2 _ fun x F2 ι2 H2 R2 l2 m2 r2 => hb S2 Pr F2 ι2 α σ H2 R2 _ _ e3 _ fun y F3 ι3 H3 R3 l3 m3 r3 => ?_)
  exact set_ok g R3 (r2.le l3 m3) r3 ((r1.le l2 m2).le l3 m3) e4 e5 e6 fun H' R' => h F3 ι3 α σ H' R' ((l1.trans l2).trans l3) ((m1.trans m2).trans m3)
theorem star_all : ∀ {es : List Expr} {env : Env} {cp : Pos}, (es.all fun e => !isStar e) = true → (backTo cp (starEach es env)).any (·.1) = false ∧ (backTo cp (starEach es env)).all (fun x => !x.1) = true
  | [], _, _, _ => ⟨rfl, rfl⟩
  | e :: es, env, cp, h => by
    rw [List.all_cons, Bool.and_eq_true, Bool.not_eq_true'] at h
    obtain ⟨h1, h2⟩ := star_all (env := env) (cp := cp) h.2
    rw [star_cons h.1]
    constructor
    · show (false || (backTo cp (starEach es env)).any (·.1)) = false
      rw [h1]; rfl
    · show (true && (backTo cp (starEach es env)).all (fun x => !x.1)) = true
      rw [h2]; rfl
theorem few_of {es : List Expr} {env : Env} {cp : Pos} (h : (es.all fun e => !isStar e) = true) (hl : es.length < 30) :
    ((backTo cp (starEach es env)).all (fun x => !x.1) && (backToKw cp (keywordEach [] env)).all (fun x => x.1.isSome) && decide (es.length + ([] : List Keyword).length + (if ([] : List Keyword).isEmpty then 0 else 1) < 30)) = true := by
  rw [(star_all h).2]
  show (true && true && decide (es.length + 0 + 0 < 30)) = true
  simpa using hl
theorem isLst_of {F : Hp} {ι : List Addr} {H : Hp} {x : V} {u : D} (h : CV p F ι H x u) (d : isLst (some u) = true) : ∃ a xs, x = .ref a ∧ SqL p.K H a xs := by
  cases u <;> try cases d
  obtain ⟨a, vs, rfl, q, _⟩ := h; exact ⟨a, vs, rfl, q⟩
theorem ty_lst (g : Good p N sc fn k X) {F : Hp} {ι : List Addr} {H : Hp} {x : V} {u : D} (h : CV p F ι H x u) (d : isLst (some u) = true) : tyV X.K "list" x H := by
  obtain ⟨a, vs, rfl, q⟩ := isLst_of h d
  exact .inl ⟨rfl, vs, by rw [g.K]; exact q⟩
theorem fs_app {apos cp : Pos} (g : Good p N sc fn k X) (hs : swapsWith (.Call (.Attribute eo "append" apos) [ea] [] cp) none pos.line X.env = pure false) (hb : attributeBase eo "append" X.env (eval eo X.env) = eval eo X.env) (hl : (apos.endLine == cp.line) = true) (h0 : isStar ea = false)
    (ho : FH p X ρ S eo (hOf o ρ S (evE G o ρ S))) (ha : ∀ S, FE p X ρ S ea (evE G a ρ S)) : FS p X ρ S (.Expr (.Call (.Attribute eo "append" apos) [ea] [] cp) pos) (evS G (.app o a) ρ S) := by
  intro Pr F ι α σ H R o' e D h
  rw [evS] at e
  obtain ⟨⟨w, S1⟩, e1, e⟩ := Option.bind_eq_some_iff.mp e
  split at e
  case isFalse => cases e
  rename_i hd
  obtain ⟨⟨d, S2⟩, e2, e⟩ := Option.bind_eq_some_iff.mp e
  obtain ⟨u, e3, e⟩ := Option.bind_eq_some_iff.mp e
  cases u <;> try cases e
  rename_i xs
  simp only at e
  split at e
  case isFalse => cases e
  rename_i hlen
  obtain ⟨⟨ρ', S4⟩, e6, e7⟩ := Option.map_eq_some_iff.mp e
  cases e7
  have fa : ∀ S, FA p X ρ S [ea] (evA G (.cons a .nil) ρ S) := fun S => fa_cons h0 (ha S) fun S => fa_nil
  refine wS_of (ps_expr (pe_bm PySem.F.plainAttrs_list PySem.F.slot_list_append PySem.F.type_list_append mt_append peW paW hb (few_of (by simp [h0]) (by simp)) hl (star_cons h0) rfl) hs) (ho Pr F ι α σ H R _ _ e1 _ fun x F1 ι1 H1 R1 l1 m1 r1 => ?_)
  cases hc : cont ρ S1 w with
  | none => rw [hc] at hd; cases hd
  | some u0 =>
  rw [hc] at hd
  refine ⟨ty_lst g (cv_of R1 r1 hc) hd, fa S1 Pr F1 ι1 α σ H1 R1 [d] S2 (by simp [evA, e2]) _ fun vs F2 ι2 H2 R2 l2 m2 rs => ?_⟩
  cases rs with
  | cons rv rs =>
  cases rs
  obtain ⟨ad, rfl, cr, wr⟩ := putC_ok R2 (r1.le l2 m2) e3 e6
  obtain ⟨vs, hH, rs⟩ := cr
  exact ⟨ad, vs, _, rfl, rfl, hH, by rw [rs.length]; exact hlen, h F2 ι2 α σ _ (wr _ fun G hG => ⟨_, hG, rs.app (.cons rv .nil)⟩) (l1.trans l2) (m1.trans m2)⟩
/-- what a pop gives back, the container changed -/
def FP (p : Pg) (X : Cx) (ρ : Env') (S : Store) (e : Expr) (r : Option (D × Env' × Store)) : Prop :=
  ∀ Pr F ι α σ H, Rel p Pr ρ S F ι α σ H → ∀ d ρ' S', r = some (d, ρ', S') → ∀ Q : VK, (∀ v F' ι' H', Rel p Pr ρ' S' F' ι' α σ H' → LeH F F' → LeA ι ι' → Rep p.K F' ι' v d → Q v H') → wE X e σ H Q
noncomputable def evP (G : Fns) (o : Ex) (as : Ar) (ρ : Env') (S : Store) : Option (D × Env' × Store) := (hOf o ρ S (evE G o ρ S)).bind fun x => (evA G as ρ x.2).bind fun y => if isLst (cont ρ x.2 x.1) = isLst (cont ρ y.2 x.1) ∧ isDct (cont ρ x.2 x.1) = isDct (cont ρ y.2 x.1) then (cont ρ y.2 x.1).bind fun u => (popD u y.1).bind fun r =>
      (putC ρ y.2 x.1 r.2).map fun q => (r.1, q.1, q.2) else none
theorem fs_pop {cp : Expr} {as : Ar} (hs : swapsWith cp none pos.line X.env = pure false) (h : FP p X ρ S cp (evP G o as ρ S)) : FS p X ρ S (.Expr cp pos) (evS G (.pop none o as) ρ S) := by
  intro Pr F ι α σ H R o' e D hD
  rw [evS] at e
  obtain ⟨⟨w, S1⟩, e1, e⟩ := Option.bind_eq_some_iff.mp e
  obtain ⟨⟨ds, S2⟩, e2, e⟩ := Option.bind_eq_some_iff.mp e
  split at e
  case isFalse => cases e
  rename_i hd
  obtain ⟨u, e3, e⟩ := Option.bind_eq_some_iff.mp e
  obtain ⟨r, e4, e⟩ := Option.bind_eq_some_iff.mp e
  obtain ⟨⟨ρ', S3⟩, e5, e⟩ := Option.bind_eq_some_iff.mp e
  cases e
  have e : evP G o as ρ S = some (r.1, ρ', S3) := by
    unfold evP
    simp only [e1, e2, Option.bind_some]
    rw [if_pos hd]
    simp only [e3, e4, Option.bind_some, e5, Option.map_some]
  exact wS_of (ps_expr peW hs) (h Pr F ι α σ H R _ _ _ e _ fun v F' ι' H' R' l m rv => hD F' ι' α σ H' R' l m)
theorem fs_popT {t : Tg} {cp : Expr} {as : Ar} (hs : swapsWithSole [tg] cp pos.line X.env = pure false) (hw : swappedStores [tg] cp X.env = pure none) (hn : nmTg tg = true) (ht : FG p X t tg) (h : FP p X ρ S cp (evP G o as ρ S)) : FS p X ρ S (.Assign [tg] cp pos) (evS G (.pop (some t) o as) ρ S) := by
  intro Pr F ι α σ H R o' e D hD
  rw [evS] at e
  obtain ⟨⟨w, S1⟩, e1, e⟩ := Option.bind_eq_some_iff.mp e
  obtain ⟨⟨ds, S2⟩, e2, e⟩ := Option.bind_eq_some_iff.mp e
  split at e
  case isFalse => cases e
  rename_i hd
  obtain ⟨u, e3, e⟩ := Option.bind_eq_some_iff.mp e
  obtain ⟨r, e4, e⟩ := Option.bind_eq_some_iff.mp e
  obtain ⟨⟨ρ', S3⟩, e5, e⟩ := Option.bind_eq_some_iff.mp e
  obtain ⟨ρ2, e6, e7⟩ := Option.map_eq_some_iff.mp e
  cases e7
  have e : evP G o as ρ S = some (r.1, ρ', S3) := by
    unfold evP
    simp only [e1, e2, Option.bind_some]
    rw [if_pos hd]
    simp only [e3, e4, Option.bind_some, e5, Option.map_some]
  exact wS_of (ps_asg peW pgW hs hw (nmTg_each hn)) (h Pr F ι α σ H R _ _ _ e _ fun v F' ι' H' R' l m rv => ht R' rv e6 _ fun σ' R2 _ => hD F' ι' α σ' H' R2 l m)
theorem isD_ofc {Pr F : Hp} {ι : List Addr} {α : Nat → Addr} {σ : L2.St} {H : Hp} {x : V} {w : Hd} (R : Rel p Pr ρ S F ι α σ H) (r : HRep p F ι α x w) (d : isDct (cont ρ S w) = true) : ∃ a, x = .ref a ∧ IsD H a := by
  cases hc : cont ρ S w with
  | none => rw [hc] at d; cases d
  | some u => rw [hc] at d; exact isD_of (cv_of R r hc) d
theorem tyL_ofc {Pr F : Hp} {ι : List Addr} {α : Nat → Addr} {σ : L2.St} {H : Hp} {x : V} {w : Hd} (g : Good p N sc fn k X) (R : Rel p Pr ρ S F ι α σ H) (r : HRep p F ι α x w) (d : isLst (cont ρ S w) = true) : tyV X.K "list" x H := by
  cases hc : cont ρ S w with
  | none => rw [hc] at d; cases d
  | some u => rw [hc] at d; exact ty_lst g (cv_of R r hc) d
theorem fp_pop0 {apos cp : Pos} (g : Good p N sc fn k X) (hb : attributeBase eo "pop" X.env (eval eo X.env) = eval eo X.env) (hl : (apos.endLine == cp.line) = true) (ho : FH p X ρ S eo (hOf o ρ S (evE G o ρ S))) :
    FP p X ρ S (.Call (.Attribute eo "pop" apos) [] [] cp) (evP G o .nil ρ S) := by
  intro Pr F ι α σ H R d ρ' S' e Q q
  unfold evP at e
  obtain ⟨⟨w, S1⟩, e1, e⟩ := Option.bind_eq_some_iff.mp e
  obtain ⟨⟨ds, S2⟩, e2, e⟩ := Option.bind_eq_some_iff.mp e
  split at e
  case isFalse => cases e
  obtain ⟨u, e3, e⟩ := Option.bind_eq_some_iff.mp e
  obtain ⟨r, e4, e⟩ := Option.bind_eq_some_iff.mp e
  obtain ⟨⟨ρ2, S3⟩, e5, e6⟩ := Option.map_eq_some_iff.mp e
  cases e6
  rw [evA] at e2
  cases e2
  cases u <;> try cases e4
  rename_i xs
  obtain ⟨y, e7, e8⟩ := Option.map_eq_some_iff.mp e4
  cases e8
  refine wE_of (pe_bm0 PySem.F.plainAttrs_list PySem.F.slot_list_pop PySem.F.type_list_pop mt_pop peW hb hl) (ho Pr F ι α σ H R _ _ e1 _ fun x F1 ι1 H1 R1 l1 m1 r1 => ?_)
  refine ⟨tyL_ofc g R1 r1 (by rw [e3]; rfl), ?_⟩
  obtain ⟨ad, rfl, cr, wr⟩ := putC_ok R1 r1 e3 e5
  obtain ⟨vs, hH, rs⟩ := cr
  obtain ⟨v, h1, h2⟩ := rs.at e7
  rw [← rs.length] at h1
  refine ⟨ad, vs, v, rfl, rfl, hH, h1, q _ F1 ι1 _ (wr _ fun G hG => ⟨_, hG, ?_⟩) l1 m1 h2⟩
  rw [List.dropLast_eq_take, List.dropLast_eq_take, rs.length]
  exact rs.take _
theorem kvs_look {κ : Type} [DecidableEq κ] {K : PySem.W.Frag} {F : Hp} {ι : List Addr} {kvs : List (κ × V)} {es : List (κ × D)} (k1 : kvs.map (·.1) = es.map (·.1)) (k2 : Reps K F ι (kvs.map (·.2)) (es.map (·.2))) (k : κ) :
    (Z.look es k = none ∧ valV kvs k = none) ∨ ∃ v d, Z.look es k = some d ∧ valV kvs k = some v ∧ Rep K F ι v d := RKV.look k ⟨k1, k2⟩
theorem fp_pop1 {apos cp : Pos} (g : Good p N sc fn k X) (m : M1 X eo "pop" apos ea cp) (h0 : isStar ea = false) (ho : FH p X ρ S eo (hOf o ρ S (evE G o ρ S))) (ha : ∀ S, FE p X ρ S ea (evE G a ρ S)) :
    FP p X ρ S (.Call (.Attribute eo "pop" apos) [ea] [] cp) (evP G o (.cons a .nil) ρ S) := by
  intro Pr F ι α σ H R d ρ' S' e Q q
  unfold evP at e
  obtain ⟨⟨w, S1⟩, e1, e⟩ := Option.bind_eq_some_iff.mp e
  obtain ⟨⟨ds, S2⟩, e2, e⟩ := Option.bind_eq_some_iff.mp e
  split at e
  case isFalse => cases e
  rename_i hd
  obtain ⟨u, e3, e⟩ := Option.bind_eq_some_iff.mp e
  obtain ⟨r, e4, e⟩ := Option.bind_eq_some_iff.mp e
  obtain ⟨⟨ρ2, S3⟩, e5, e6⟩ := Option.map_eq_some_iff.mp e
  cases e6
  rw [e3] at hd
  rw [evA] at e2
  obtain ⟨⟨y, S2'⟩, e7, e8⟩ := Option.bind_eq_some_iff.mp e2
  rw [evA] at e8
  cases e8
  have fa : ∀ S, FA p X ρ S [ea] (evA G (.cons a .nil) ρ S) := fun S => fa_cons h0 (ha S) fun S => fa_nil
  cases u <;> try (cases y <;> cases e4)
  · rename_i xs
    cases y <;> try cases e4
    rename_i i
    simp only [popD] at e4
    split at e4
    case isFalse => cases e4
    rename_i hi
    obtain ⟨kk, e9, e10⟩ := Option.bind_eq_some_iff.mp e4
    obtain ⟨z, e11, e12⟩ := Option.map_eq_some_iff.mp e10
    cases e12
    refine wE_of (pe_bm PySem.F.plainAttrs_list PySem.F.slot_list_pop PySem.F.type_list_pop mt_popAt peW paW m.base m.few m.line (star_cons h0) rfl) (ho Pr F ι α σ H R _ _ e1 _ fun x F1 ι1 H1 R1 l1 m1 r1 => ?_)
    refine ⟨tyL_ofc g R1 r1 hd.1, fa S1 Pr F1 ι1 α σ H1 R1 _ _ (by rw [evA]; exact e2) _ fun vs F2 ι2 H2 R2 l2 m2 rs => ?_⟩
    cases rs with
    | cons rv rs =>
    cases rs
    cases rv
    obtain ⟨ad, rfl, cr, wr⟩ := putC_ok R2 (r1.le l2 m2) e3 e5
    obtain ⟨vs, hH, rs⟩ := cr
    obtain ⟨v, h1, h2⟩ := rs.at e11
    obtain ⟨b1, b2⟩ := smallI_ok hi
    exact ⟨ad, vs, _, kk, v, rfl, rfl, hH, by omega, by omega, by rw [rs.length]; exact e9, h1, q _ F2 ι2 _ (wr _ fun G hG => ⟨_, hG, rs.erase _⟩) (l1.trans l2) (m1.trans m2) h2⟩
  · rename_i es
    obtain ⟨key, e9, e10⟩ := Option.bind_eq_some_iff.mp e4
    obtain ⟨z, e11, e12⟩ := Option.map_eq_some_iff.mp e10
    cases e12
    refine wE_of (pe_dpop1 peW peW m) (ho Pr F ι α σ H R _ _ e1 _ fun x F1 ι1 H1 R1 l1 m1 r1 => ?_)
    obtain ⟨ad, rfl, hI⟩ := isD_ofc R1 r1 hd.2
    refine ⟨ad, rfl, hI, ha S1 Pr F1 ι1 α σ H1 R1 _ _ e7 _ fun yv F2 ι2 H2 R2 l2 m2 r2 => ?_⟩
    obtain ⟨ad2, ea2, cr, wr⟩ := putC_ok R2 (r1.le l2 m2) e3 e5
    cases ea2
    obtain ⟨kvs, hH, k1, k2⟩ := cr
    have hy := keyK_rep r2 e9
    subst hy
    rcases kvs_look k1 k2 key with ⟨h1, h2⟩ | ⟨v, d, h1, h2, h3⟩
    · rw [h1] at e11; cases e11
    · rw [h1] at e11; cases e11
      refine ⟨kvs, key, v, hH, rfl, h2, q _ F2 ι2 _ (wr _ fun G hG => ?_) (l1.trans l2) (m1.trans m2) h3⟩
      obtain ⟨z1, z2⟩ := RKV.drop key (⟨k1, k2⟩ : RKV p.K F2 ι2 kvs es)
      exact ⟨_, hG, z1, z2⟩
theorem popD2 {u y z : D} {r : D × D} (e : popD u [y, z] = some r) : ∃ es key, u = .dK es ∧ keyK y = some key ∧ r = match Z.look es key with
    | some v => (v, .dK (ddrop es key))
    | none => (z, .dK es) := by
  cases u with
  | dK es =>
    have e : (keyK y).map (fun k => match Z.look es k with
      | some v => (v, D.dK (ddrop es k))
      | none => (z, .dK es)) = some r := by cases y <;> exact e
    obtain ⟨key, e1, e2⟩ := Option.map_eq_some_iff.mp e
    exact ⟨es, key, rfl, e1, e2.symm⟩
  | _ => cases y <;> cases e
theorem fp_pop2 {apos cp : Pos} (g : Good p N sc fn k X) (m : M2 X eo "pop" apos ea eb cp) (ho : FH p X ρ S eo (hOf o ρ S (evE G o ρ S))) (ha : ∀ S, FE p X ρ S ea (evE G a ρ S)) (hb : ∀ S, FE p X ρ S eb (evE G b ρ S)) :
    FP p X ρ S (.Call (.Attribute eo "pop" apos) [ea, eb] [] cp) (evP G o (.cons a (.cons b .nil)) ρ S) := by
  intro Pr F ι α σ H R d ρ' S' e Q q
  unfold evP at e
  obtain ⟨⟨w, S1⟩, e1, e⟩ := Option.bind_eq_some_iff.mp e
  obtain ⟨⟨ds, S2⟩, e2, e⟩ := Option.bind_eq_some_iff.mp e
  split at e
  case isFalse => cases e
  rename_i hd
  obtain ⟨u, e3, e⟩ := Option.bind_eq_some_iff.mp e
  obtain ⟨r, e4, e⟩ := Option.bind_eq_some_iff.mp e
  obtain ⟨⟨ρ2, S3⟩, e5, e6⟩ := Option.map_eq_some_iff.mp e
  cases e6
  rw [e3] at hd
  rw [evA] at e2
  obtain ⟨⟨y, S2'⟩, e7, e8⟩ := Option.bind_eq_some_iff.mp e2
  rw [evA] at e8
  obtain ⟨⟨ds', S5⟩, e14, e9⟩ := Option.map_eq_some_iff.mp e8
  cases e9
  obtain ⟨⟨z, S6⟩, e10, e11⟩ := Option.bind_eq_some_iff.mp e14
  rw [evA] at e11
  cases e11
  obtain ⟨es, key, rfl, e12, e13⟩ := popD2 e4
  refine wE_of (pe_dpop2 peW peW peW m) (ho Pr F ι α σ H R _ _ e1 _ fun x F1 ι1 H1 R1 l1 m1 r1 => ?_)
  obtain ⟨ad, rfl, hI⟩ := isD_ofc R1 r1 hd.2
  refine ⟨ad, rfl, hI, ha S1 Pr F1 ι1 α σ H1 R1 _ _ e7 _ fun yv F2 ι2 H2 R2 l2 m2 r2 => hb _ Pr F2 ι2 α σ H2 R2 _ _ e10 _ fun zv F3 ι3 H3 R3 l3 m3 r3 => ?_⟩
  obtain ⟨ad2, ea2, cr, wr⟩ := putC_ok R3 ((r1.le l2 m2).le l3 m3) e3 e5
  cases ea2
  obtain ⟨kvs, hH, k1, k2⟩ := cr
  have hy := keyK_rep (r2.le l3 m3) e12
  subst hy
  refine ⟨kvs, key, hH, rfl, ?_, ?_⟩
  · intro v hv
    rcases kvs_look k1 k2 key with ⟨h1, h2⟩ | ⟨v', d, h1, h2, h3⟩
    · rw [h2] at hv; cases hv
    · rw [h2] at hv; cases hv
      rw [h1] at e13; subst e13
      refine q _ F3 ι3 _ (wr _ fun G hG => ?_) ((l1.trans l2).trans l3) ((m1.trans m2).trans m3) h3
      obtain ⟨z1, z2⟩ := RKV.drop key (⟨k1, k2⟩ : RKV p.K F3 ι3 kvs es)
      exact ⟨_, hG, z1, z2⟩
  · intro hv
    rcases kvs_look k1 k2 key with ⟨h1, h2⟩ | ⟨v', d, h1, h2, h3⟩
    · rw [h1] at e13; subst e13
      have := wr (.dK kvs) fun G hG => ⟨kvs, hG, k1, k2⟩
      have hs : upd H3 ad (.dK kvs) = H3 := by
        funext b
        by_cases hb : b = ad
        · subst hb; rw [upd_same, hH]
        · rw [upd_ne hb]
      rw [hs] at this
      exact q _ F3 ι3 _ this ((l1.trans l2).trans l3) ((m1.trans m2).trans m3) r3
    · rw [h2] at hv; cases hv
end
end Z

set_option Elab.async false
set_option linter.all false
set_option maxRecDepth 100000
set_option maxHeartbeats 4000000
namespace Z
open PySem PySem.Spec PyProof.Rows L2

/-! # defs -/
/-- what a def gives back: value and store -/
def Back (p : Pg) (Pr F : Hp) (ι : List Addr) (d : D) (S' : Store) : VK := fun v H' => ∃ F' ι', Wd p Pr S' F' ι' H' ∧ LeH F F' ∧ LeA ι ι' ∧ Rep p.K F' ι' v d
structure FnG (p : Pg) (k : Nat) (f : Addr) (fd : FuncData) (ps : List Str) (g : List D → Store → Option (D × Store)) : Prop where
  len : ∀ ds S r, g ds S = some r → ds.length = ps.length
  run : ∀ (A : Around) (outer : List Env) (s : Shared) (H : Hp) (args : Args) (us : List Value) (vs : List V) (ds : List D) (S S' : Store) (d : D) (Pr F : Hp) (ι : List Addr), Room k A → A.guards = some [] → Env0 p.P p.w p.K p.mg p.base A outer s H → BindsTo s fd args (ps.zip us) →
    Vals vs us → Reps p.K F ι vs ds → Wd p Pr S F ι H → g ds S = some (d, S') →
    codeAny (model p.P p.w) A (.call (.ref f) args) (fun r s' => ∃ u, r = .ok (.ret u) ∧ CE outer p.P p.w H s (Back p Pr F ι d S') u s') s
theorem FnG.mono {p : Pg} {j k : Nat} {f : Addr} {fd : FuncData} {ps : List Str} {g : List D → Store → Option (D × Store)} (h : FnG p j f fd ps g) (l : j ≤ k) : FnG p k f fd ps g :=
  ⟨h.len, fun A outer s H args us vs ds S S' d Pr F ι r => h.run A outer s H args us vs ds S S' d Pr F ι (r.mono l)⟩
/-- the defs keep their promises at level k -/
structure GoodF (p : Pg) (k : Nat) (G : Fns) : Prop extends FldOk p G where
  fn : ∀ x ds S r, G.fn (x, none) ds S = some r → ∃ f fd ps, p.mg x = some (.ref f) ∧ PySem.W.keepIn p.K (.ref f) = true ∧ Binds p.K fd ps [] ∧ FnG p k f fd ps (G.fn (x, none))
  mt : ∀ C m ds S r, G.fn (C, some m) ds S = some r → ∃ Ca f fd ps, p.mg C = some (.ref Ca) ∧ p.cls C = some Ca ∧ Cls p.K Ca ∧ Meth p.K Ca m f ∧ Binds p.K fd ps [] ∧ FnG p k f fd ps (G.fn (C, some m)) ∧ (m = "__init__" → Mk p.K Ca f)
section
open Classical
/-- the names' own containers are the callee's to leave alone -/
noncomputable def grd (Pr : Hp) (ρ : Env') (α : Nat → Addr) (H : Hp) : Hp := fun a => if ∃ i d, ρ[i]? = some (.own d) ∧ α i = a then H a else Pr a
variable {p : Pg} {Pr : Hp} {ρ : Env'} {S : Store} {F : Hp} {ι : List Addr} {α : Nat → Addr} {σ : L2.St} {H : Hp}
theorem grd_wd (R : Rel p Pr ρ S F ι α σ H) : Wd p (grd Pr ρ α H) S F ι H where
  sub := R.wd.sub
  con := R.wd.con
  len := R.wd.len
  nd := R.wd.nd
  cell := R.wd.cell
  prot := fun a o h => by
    unfold grd at h
    split at h
    · rename_i q
      obtain ⟨i, d, h1, rfl⟩ := q
      obtain ⟨k1, k2, k3, k4, k5⟩ := R.own i d h1
      exact ⟨h, .inl k2, fun n c h2 _ => absurd (List.mem_of_getElem? h2) k3⟩
    · exact R.wd.prot a o h
theorem grd_back {S' : Store} {F' : Hp} {ι' : List Addr} {H' : Hp} (R : Rel p Pr ρ S F ι α σ H) (W : Wd p (grd Pr ρ α H) S' F' ι' H') (l : LeH F F') (m : LeA ι ι') : Rel p Pr ρ S' F' ι' α σ H' where
  wd := {
    sub := W.sub
    con := W.con
    len := W.len
    nd := W.nd
    cell := W.cell
    prot := fun a o h => by
      refine W.prot a o ?_
      unfold grd
      split
      · rename_i q
        obtain ⟨i, d, h1, rfl⟩ := q
        rw [(R.own i d h1).2.2.2.2] at h; cases h
      · exact h }
  fz := fun i d h => let ⟨v, h1, h2⟩ := R.fz i d h; ⟨v, h1, h2.le l m⟩
  own := fun i d h => by
    obtain ⟨k1, k2, k3, k4, k5⟩ := R.own i d h
    obtain ⟨o, t, _, _, nl⟩ := k4.there
    have hg : grd Pr ρ α H (α i) = some o := by
      unfold grd
      rw [if_pos ⟨i, d, h, rfl⟩]; exact t
    obtain ⟨q1, q2, q3⟩ := W.prot _ _ hg
    refine ⟨k1, q2.resolve_right nl, fun hm => ?_, k4.le l m (q1.trans t.symm), k5⟩
    obtain ⟨n, hn⟩ := List.getElem?_of_mem hm
    have hl : n < S'.length := by rw [← W.len]; exact (List.getElem?_eq_some_iff.mp hn).1
    obtain ⟨d', hd⟩ := q3 n S'[n] hn (List.getElem?_eq_getElem hl)
    obtain ⟨_, c⟩ := W.cell n S'[n] _ (List.getElem?_eq_getElem hl) hn
    rw [hd] at c
    obtain ⟨ob, o', c⟩ := LRep.there c
    rw [q1] at c; cases c
    exact nl trivial
  lng := R.lng
  inj := R.inj
end
section
variable {p : Pg} {N : List Str} {sc : Scope} {fn : Str → Bool} {k : Nat} {X : Cx} {G : Fns} {ρ : Env'} {S : Store} {e ea eb ec eo tg : Expr} {pos : Pos} {a b c o : Ex}
/-- a callee runs -/
theorem go_fn {f : Addr} {fd : FuncData} {ps : List Str} {gf : List D → Store → Option (D × Store)} {Pr F : Hp} {ι : List Addr} {α : Nat → Addr} {σ : L2.St} {H : Hp} {pins : List (Addr × Obj)} {s : Shared} {us : List Value} {vs : List V} {ds : List D} {d : D} {S' : Store} {Q : VK}
    (K : FnG p k f fd ps gf) (hb : Binds p.K fd ps []) (g : Good p N sc fn (k + 1) X) (I : Inv X pins σ H s) (rv : Vals vs us) (R : Rel p Pr ρ S F ι α σ H) (rs : Reps p.K F ι vs ds) (e : gf ds S = some (d, S'))
    (q : ∀ v F' ι' H', Rel p Pr ρ S' F' ι' α σ H' → LeH F F' → LeA ι ι' → Rep p.K F' ι' v d → Q v H') : wpAny (model X.prog X.w) X.A (call (.ref f) us) (EP X pins σ Q) X.xe s := by
  obtain ⟨cl, cn, rfl⟩ : ∃ cl cn, p = X.pg cl cn := ⟨p.cls, p.con, g.pg.symm⟩
  have hl : us.length = ps.length := by rw [← rv.length, rs.length]; exact K.len _ _ _ e
  have bd := hb s us I.kIn (by rw [List.append_nil]; exact hl)
  rw [List.append_nil] at bd
  refine wpAny_call (codeAny_mono (K.run X.A X.stack s H ⟨us, []⟩ us vs ds S S' d _ F ι (g.room.mono (Nat.le_succ _)) g.grd I.env0 bd rv rs (grd_wd R) e) fun r s' hr => ?_)
  obtain ⟨u, rfl, v, H', os, bare, un, hok, ru, F', ι', W, l, m, rr⟩ := hr
  exact I.after ⟨v, H', os, bare, un, hok, ru, q v F' ι' H' (grd_back R W l m) l m rr⟩
theorem fe_call {x : Str} {ps : Pos} {es : List Expr} {as : Ar} (g : Good p N sc fn (k + 1) X) (gf : GoodF p k G) (hg : sc.names.lookup x = some .globalImplicit) (hd : (x == ("__debug__" : Str)) = false) (h0 : isStar ea = false) (hpl : (es.all fun e => !isStar e) = true) (ha : FA p X ρ S (ea :: es) (evA G as ρ S)) :
    FE p X ρ S (.Call (.Name x ps) (ea :: es) [] pos) (evE G (.call x as) ρ S) := by
  intro Pr F ι α σ H R d S' e Q q pins s I
  rw [evE] at e
  obtain ⟨⟨ds, S1⟩, e1, e2⟩ := Option.bind_eq_some_iff.mp e
  obtain ⟨f, fd, prm, m1, kp, bd, K⟩ := gf.fn x _ _ _ e2
  have hG : Gl X x := by show X.env.scope.names.lookup x = _; rw [g.sc]; exact hg
  have hM : X.mg x = some (.ref f) := by rw [← m1, ← g.pg]; rfl
  have hk : PySem.W.keepIn X.K (.ref f) = true := by rw [g.K]; exact kp
  have wa := ha Pr F ι α σ H R _ _ e1 (fun vs H' => ∃ F' ι', Rel p Pr ρ S1 F' ι' α σ H' ∧ LeH F F' ∧ LeA ι ι' ∧ Reps p.K F' ι' vs ds) fun vs F' ι' H' R' l m rs => ⟨F', ι', R', l, m, rs⟩
  refine wpAny_Call_Name_kw (ld_glob I hG hM ?_ hd)
  refine PySem.W.callWith_K (h₀ := X.base) I.ok.mod.kin hk (thn (wa pos pins s I) fun us s1 hx => ?_) (star_cons h0) (star_all hpl).1
  obtain ⟨vs, H1, I1, rv, F1, ι1, R1, l1, mm, rs⟩ := hx
  exact ⟨I1.kIn, go_fn K bd g I1 rv R1 rs e2 fun v F' ι' H' R' l m rr => q v F' ι' H' R' (l1.trans l) (mm.trans m) rr⟩
theorem fe_call0 {x : Str} {ps : Pos} (g : Good p N sc fn (k + 1) X) (gf : GoodF p k G) (hg : sc.names.lookup x = some .globalImplicit) (hd : (x == ("__debug__" : Str)) = false) :
    FE p X ρ S (.Call (.Name x ps) [] [] pos) (evE G (.call x .nil) ρ S) := by
  intro Pr F ι α σ H R d S' e Q q pins s I
  rw [evE] at e
  obtain ⟨⟨ds, S1⟩, e1, e2⟩ := Option.bind_eq_some_iff.mp e
  rw [evA] at e1
  cases e1
  obtain ⟨f, fd, prm, m1, kp, bd, K⟩ := gf.fn x _ _ _ e2
  have hG : Gl X x := by show X.env.scope.names.lookup x = _; rw [g.sc]; exact hg
  have hM : X.mg x = some (.ref f) := by rw [← m1, ← g.pg]; rfl
  have hk : PySem.W.keepIn X.K (.ref f) = true := by rw [g.K]; exact kp
  refine wpAny_Call_Name_kw (ld_glob I hG hM ?_ hd)
  exact PySem.W.callWith_K0 I.kIn hk (go_fn (us := []) K bd g I .nil R .nil e2 q)
theorem getm {Pr F : Hp} {ι : List Addr} {α : Nat → Addr} {σ : L2.St} {H : Hp} {x : V} {n : Nat} {C : Str} {fs : List (Str × D)} (R : Rel p Pr ρ S F ι α σ H) (r : Rep p.K F ι x (.ref n)) (hc : S[n]? = some (.ins C fs)) :
    ∃ ad Ca dx fv, x = .ref ad ∧ p.cls C = some Ca ∧ H ad = some (.ins Ca dx fv) ∧ ∀ m : Str, (fs.lookup m).isNone = true → fv.lookup m = none := by
  cases r with
  | @ref n ad hn =>
  obtain ⟨b, hb, hF, Ca, dx, fv, h1, h2, h3, h4⟩ := R.wd.at hc
  rw [hn] at hb; cases hb
  exact ⟨ad, Ca, dx, fv, rfl, h1, h2, fun m hm => fs_none h3 hm⟩
theorem fe_meth {m : Str} {apos : Pos} {es : List Expr} {as : Ar} {pl : Sem Bool} (g : Good p N sc fn (k + 1) X) (gf : GoodF p k G) (h0 : isStar ea = false) (hpl : (es.all fun e => !isStar e) = true)
    (ht : eval (.Call (.Attribute eo m apos) (ea :: es) [] pos) X.env = (do
      let ov ← eval eo X.env
      standAt apos.atName
      let (f, first) ← holding [ov] (getMethod ov m pl)
      callWith pos f first (backTo pos (starEach (ea :: es) X.env)) (backToKw pos (keywordEach [] X.env))))
    (ho : FE p X ρ S eo (evE G o ρ S)) (ha : ∀ S, FA p X ρ S (ea :: es) (evA G as ρ S)) : FE p X ρ S (.Call (.Attribute eo m apos) (ea :: es) [] pos) (evE G (.meth o m as) ρ S) := by
  intro Pr F ι α σ H R d S' e Q q pins s I
  rw [evE] at e
  obtain ⟨⟨u, S1⟩, e1, e⟩ := Option.bind_eq_some_iff.mp e
  cases u <;> try cases e
  rename_i n
  simp only at e
  split at e
  case h_2 => cases e
  rename_i C fs hc
  split at e
  case isFalse => cases e
  rename_i hfs
  obtain ⟨⟨ds, S2⟩, e2, e3⟩ := Option.bind_eq_some_iff.mp e
  obtain ⟨Ca, f, fd, prm, m0, m1, cl, mt, bd, K, _⟩ := gf.mt C m _ _ _ e3
  rw [← g.K] at cl mt
  have wo := ho Pr F ι α σ H R _ _ e1 (fun v H' => ∃ F' ι', Rel p Pr ρ S1 F' ι' α σ H' ∧ LeH F F' ∧ LeA ι ι' ∧ Rep p.K F' ι' v (.ref n)) fun v F' ι' H' R' l m r => ⟨F', ι', R', l, m, r⟩
  refine PySem.W.methodCall_KW (pl := pl) (thn (wo pins s I) fun w s1 hx => ?_) ht
  obtain ⟨x, H1, I1, rx, F1, ι1, R1, l1, m1', r1⟩ := hx
  obtain ⟨ad, Ca', dx, fv, rfl, k1, k2, k3⟩ := getm R1 r1 hc
  rw [m1] at k1; cases k1
  obtain rfl : w = Value.ref ad := rx
  refine getmeth_ok I1 k2 cl mt (k3 m hfs) ?_
  have wa := ha S1 Pr F1 ι1 α σ H1 R1 _ _ e2 (fun vs H' => ∃ F' ι', Rel p Pr ρ S2 F' ι' α σ H' ∧ LeH F1 F' ∧ LeA ι1 ι' ∧ Reps p.K F' ι' vs ds) fun vs F' ι' H' R' l m rs => ⟨F', ι', R', l, m, rs⟩
  refine PySem.W.callWith_K (first := [.ref ad]) (h₀ := X.base) I.ok.mod.kin mt.kp (thn (wa pos pins s1 I1) fun us s2 hx => ?_) (star_cons h0) (star_all hpl).1
  obtain ⟨vs, H2, I2, rv, F2, ι2, R2, l2, m2, rs⟩ := hx
  exact ⟨I2.kIn, go_fn (us := .ref ad :: us) (vs := .ref ad :: vs) K bd g I2 (.cons rfl rv) R2 (.cons (r1.le l2 m2) rs) e3 fun v F' ι' H' R' l m rr => q v F' ι' H' R' ((l1.trans l2).trans l) ((m1'.trans m2).trans m) rr⟩
theorem fe_meth0 {m : Str} {apos : Pos} {pl : Sem Bool} (g : Good p N sc fn (k + 1) X) (gf : GoodF p k G)
    (ht : eval (.Call (.Attribute eo m apos) [] [] pos) X.env = (do
      let ov ← eval eo X.env
      standAt apos.atName
      let (f, first) ← holding [ov] (getMethod ov m pl)
      callWith pos f first (backTo pos (starEach [] X.env)) (backToKw pos (keywordEach [] X.env))))
    (ho : FE p X ρ S eo (evE G o ρ S)) : FE p X ρ S (.Call (.Attribute eo m apos) [] [] pos) (evE G (.meth o m .nil) ρ S) := by
  intro Pr F ι α σ H R d S' e Q q pins s I
  rw [evE] at e
  obtain ⟨⟨u, S1⟩, e1, e⟩ := Option.bind_eq_some_iff.mp e
  cases u <;> try cases e
  rename_i n
  simp only at e
  split at e
  case h_2 => cases e
  rename_i C fs hc
  split at e
  case isFalse => cases e
  rename_i hfs
  obtain ⟨⟨ds, S2⟩, e2, e3⟩ := Option.bind_eq_some_iff.mp e
  rw [evA] at e2
  cases e2
  obtain ⟨Ca, f, fd, prm, m0, m1, cl, mt, bd, K, _⟩ := gf.mt C m _ _ _ e3
  rw [← g.K] at cl mt
  have wo := ho Pr F ι α σ H R _ _ e1 (fun v H' => ∃ F' ι', Rel p Pr ρ S1 F' ι' α σ H' ∧ LeH F F' ∧ LeA ι ι' ∧ Rep p.K F' ι' v (.ref n)) fun v F' ι' H' R' l m r => ⟨F', ι', R', l, m, r⟩
  refine PySem.W.methodCall_KW (pl := pl) (thn (wo pins s I) fun w s1 hx => ?_) ht
  obtain ⟨x, H1, I1, rx, F1, ι1, R1, l1, m1', r1⟩ := hx
  obtain ⟨ad, Ca', dx, fv, rfl, k1, k2, k3⟩ := getm R1 r1 hc
  rw [m1] at k1; cases k1
  obtain rfl : w = Value.ref ad := rx
  refine getmeth_ok I1 k2 cl mt (k3 m hfs) ?_
  exact PySem.W.callWith_K0 (first := [.ref ad]) I1.kIn mt.kp (go_fn (us := [.ref ad]) (vs := [.ref ad]) K bd g I1 (.cons rfl .nil) R1 (.cons r1 .nil) e3 fun v F' ι' H' R' l m rr => q v F' ι' H' R' (l1.trans l) (m1'.trans m) rr)
theorem go_mk {C : Str} {Ca f : Addr} {fd : FuncData} {ps : List Str} {gf : List D → Store → Option (D × Store)} {Pr F : Hp} {ι : List Addr} {α : Nat → Addr} {σ : L2.St} {H : Hp} {pins : List (Addr × Obj)} {s : Shared} {us : List Value} {vs : List V} {ds : List D} {S' : Store} {Q : VK}
    (hC : p.cls C = some Ca) (M : Mk p.K Ca f) (K : FnG p k f fd ps gf) (hb : Binds p.K fd ps []) (g : Good p N sc fn (k + 1) X) (I : Inv X pins σ H s) (rv : Vals vs us) (R : Rel p Pr ρ S F ι α σ H) (rs : Reps p.K F ι vs ds) (e : gf (.ref S.length :: ds) (S ++ [.ins C []]) = some (.non, S'))
    (q : ∀ v F' ι' H', Rel p Pr ρ S' F' ι' α σ H' → LeH F F' → LeA ι ι' → Rep p.K F' ι' v (.ref S.length) → Q v H') : wpAny (model X.prog X.w) X.A (call (.ref Ca) us) (EP X pins σ Q) X.xe s := by
  obtain ⟨cl, cn, rfl⟩ : ∃ cl cn, p = X.pg cl cn := ⟨p.cls, p.con, g.pg.symm⟩
  have I2 := Inv.made (C := Ca) I
  generalize hd : s.heap.objs.size = dx at I2
  have n1 : H dx = none := I.hok.fresh (Nat.le_of_eq hd)
  have n2 : H (dx + 1) = none := I.hok.fresh (by rw [hd]; exact Nat.le_succ _)
  have ne : dx ≠ dx + 1 := Nat.ne_of_lt (Nat.lt_succ_self _)
  have n3 : upd H dx (.own (dx + 1)) (dx + 1) = none := by rw [upd_ne (fun z => ne z.symm)]; exact n2
  have R1 := R.grow (F' := F) (H' := upd (upd H dx (.own (dx + 1))) (dx + 1) (.ins Ca dx [])) ⟨(LeH.upd n1).trans (LeH.upd n3), LeH.refl _, fun b u z => .inl z⟩
  have hF := R.wd.fresh n2
  obtain ⟨R2, at2⟩ := R1.addC (a := dx + 1) (c := .ins C []) ⟨Ca, dx, [], hC, upd_same, rfl, .nil⟩ hF (R.wd.notin n2) (by
    cases z : Pr (dx + 1) with
    | none => rfl
    | some u => rw [(R.wd.prot _ u z).1] at n2; cases n2) (fun j e hj z => by
    obtain ⟨_, _, _, h4, _⟩ := R.own j e hj
    obtain ⟨u, t, _⟩ := h4.there
    rw [z, n2] at t; cases t)
  have rs2 : Reps X.K F (ι ++ [dx + 1]) (.ref (dx + 1) :: vs) (.ref S.length :: ds) := .cons (.ref at2) (rs.le (LeH.refl _) (LeA.app _ _))
  have rv2 : Vals (V.ref (dx + 1) :: vs) (Value.ref (dx + 1) :: us) := .cons rfl rv
  have hl : (Value.ref (dx + 1) :: us).length = ps.length := by rw [← rv2.length, rs2.length]; exact K.len _ _ _ e
  subst hd
  have bd := hb _ (Value.ref (s.heap.objs.size + 1) :: us) I2.kIn (by rw [List.append_nil]; exact hl)
  rw [List.append_nil] at bd
  have gd : (X.A.under (.builtin "type.__call__" ⟨.ref Ca :: us, []⟩)).guards = some [] := by
    first
      | exact g.grd
      | (simpa [Around.under, Code.isGuard, guardIds] using g.grd)
  refine wpAny_call (make_map (f := f) I.kIn M.makes M.init (beq_iff_eq.mp M.fn) (codeAny_mono (K.run _ X.stack _ _ ⟨Value.ref (s.heap.objs.size + 1) :: us, []⟩ (Value.ref (s.heap.objs.size + 1) :: us) _ _ _ _ _ _ F (ι ++ [s.heap.objs.size + 1]) (g.room.make Ca us []) gd (I2.env0.make Ca us []) bd rv2 rs2 (grd_wd R2) e) fun r s' hr => ?_))
  obtain ⟨u, rfl, v, H', os, bare, un, hok, ru, F', ι', W, l, m, rr⟩ := hr
  obtain ⟨v', H2, I3, rv', ev, hq⟩ := I2.after (Q := fun v'' H2 => v'' = v ∧ H2 = H') ⟨v, H', os, bare, un, hok, ru, rfl, rfl⟩
  cases rr
  subst ev hq
  exact ⟨rv', .ref (s.heap.objs.size + 1), H2, I3, rfl, q _ F' ι' H2 (grd_back R2 W l m) l ((LeA.app _ _).trans m) (.ref (m _ _ at2))⟩
theorem mk_non {y : D × Store} {n : Nat} {d : D} {S' : Store} (e : (match y.1 with
      | .non => some (D.ref n, y.2)
      | _ => none) = some (d, S')) : y = (.non, S') ∧ d = .ref n := by
  obtain ⟨y1, y2⟩ := y
  cases y1 <;> cases e
  exact ⟨rfl, rfl⟩
theorem fe_mk {x : Str} {ps : Pos} {es : List Expr} {as : Ar} (g : Good p N sc fn (k + 1) X) (gf : GoodF p k G) (hg : sc.names.lookup x = some .globalImplicit) (hd : (x == ("__debug__" : Str)) = false) (h0 : isStar ea = false) (hpl : (es.all fun e => !isStar e) = true) (ha : FA p X ρ S (ea :: es) (evA G as ρ S)) :
    FE p X ρ S (.Call (.Name x ps) (ea :: es) [] pos) (evE G (.mk x as) ρ S) := by
  intro Pr F ι α σ H R d S' e Q q pins s I
  rw [evE] at e
  obtain ⟨⟨ds, S1⟩, e1, e2⟩ := Option.bind_eq_some_iff.mp e
  obtain ⟨y, e4, e3⟩ := Option.bind_eq_some_iff.mp e2
  obtain ⟨rfl, rfl⟩ := mk_non e3
  obtain ⟨Ca, f, fd, prm, m0, m1, cl, mt, bd, K, mk⟩ := gf.mt x _ _ _ _ e4
  have mk := mk rfl
  have hG : Gl X x := by show X.env.scope.names.lookup x = _; rw [g.sc]; exact hg
  have hM : X.mg x = some (.ref Ca) := by rw [← m0, ← g.pg]; rfl
  have hk : PySem.W.keepIn X.K (.ref Ca) = true := by rw [g.K]; exact mk.kp
  have wa := ha Pr F ι α σ H R _ _ e1 (fun vs H' => ∃ F' ι', Rel p Pr ρ S1 F' ι' α σ H' ∧ LeH F F' ∧ LeA ι ι' ∧ Reps p.K F' ι' vs ds) fun vs F' ι' H' R' l m rs => ⟨F', ι', R', l, m, rs⟩
  refine wpAny_Call_Name_kw (ld_glob I hG hM ?_ hd)
  refine PySem.W.callWith_K (h₀ := X.base) I.ok.mod.kin hk (thn (wa pos pins s I) fun us s1 hx => ?_) (star_cons h0) (star_all hpl).1
  obtain ⟨vs, H1, I1, rv, F1, ι1, R1, l1, mm, rs⟩ := hx
  exact ⟨I1.kIn, go_mk m1 mk K bd g I1 rv R1 rs e4 fun v F' ι' H' R' l m rr => q v F' ι' H' R' (l1.trans l) (mm.trans m) rr⟩
theorem fe_mk0 {x : Str} {ps : Pos} (g : Good p N sc fn (k + 1) X) (gf : GoodF p k G) (hg : sc.names.lookup x = some .globalImplicit) (hd : (x == ("__debug__" : Str)) = false) :
    FE p X ρ S (.Call (.Name x ps) [] [] pos) (evE G (.mk x .nil) ρ S) := by
  intro Pr F ι α σ H R d S' e Q q pins s I
  rw [evE] at e
  obtain ⟨⟨ds, S1⟩, e1, e2⟩ := Option.bind_eq_some_iff.mp e
  rw [evA] at e1
  cases e1
  obtain ⟨y, e4, e3⟩ := Option.bind_eq_some_iff.mp e2
  obtain ⟨rfl, rfl⟩ := mk_non e3
  obtain ⟨Ca, f, fd, prm, m0, m1, cl, mt, bd, K, mk⟩ := gf.mt x _ _ _ _ e4
  have mk := mk rfl
  have hG : Gl X x := by show X.env.scope.names.lookup x = _; rw [g.sc]; exact hg
  have hM : X.mg x = some (.ref Ca) := by rw [← m0, ← g.pg]; rfl
  have hk : PySem.W.keepIn X.K (.ref Ca) = true := by rw [g.K]; exact mk.kp
  refine wpAny_Call_Name_kw (ld_glob I hG hM ?_ hd)
  exact PySem.W.callWith_K0 I.kIn hk (go_mk (us := []) m1 mk K bd g I .nil R .nil e4 q)
end

/-! # a def by its body -/
def stS (N : List Str) (ps : List Str) (ds : List D) : Env' := ds.map Slot.fz ++ List.replicate (N.length - ps.length) .un
def outR : Out → Option (D × Store)
  | .ret d S' => some (d, S')
  | .nxt _ S' => some (.non, S')
  | _ => none
theorem rel_start {p : Pg} {Pr : Hp} {S : Store} {F : Hp} {ι : List Addr} {H : Hp} {N ps : List Str} {vs : List V} {ds : List D} (α : Nat → Addr) (W : Wd p Pr S F ι H) (rs : Reps p.K F ι vs ds) (hl : ds.length = ps.length) : Rel p Pr (stS N ps ds) S F ι α (L2.start N vs) H where
  wd := W
  fz := fun i d h => by
    unfold stS at h
    by_cases hi : i < ds.length
    · rw [List.getElem?_append_left (by simpa using hi), List.getElem?_map] at h
      obtain ⟨e, h1, h2⟩ := Option.map_eq_some_iff.mp h
      cases h2
      obtain ⟨v, h3, h4⟩ := rs.at h1
      refine ⟨v, ?_, h4⟩
      unfold L2.start
      rw [List.getElem?_append_left (by rw [List.length_map, rs.length]; exact hi), List.getElem?_map, h3]; rfl
    · rw [List.getElem?_append_right (by simpa using hi), List.getElem?_replicate] at h
      split at h <;> cases h
  own := fun i d h => by
    unfold stS at h
    by_cases hi : i < ds.length
    · rw [List.getElem?_append_left (by simpa using hi), List.getElem?_map] at h
      obtain ⟨e, h1, h2⟩ := Option.map_eq_some_iff.mp h
      cases h2
    · rw [List.getElem?_append_right (by simpa using hi), List.getElem?_replicate] at h
      split at h <;> cases h
  lng := by
    unfold stS L2.start
    rw [List.length_append, List.length_append, List.length_map, List.length_map, List.length_replicate, List.length_replicate, rs.length, hl]
    exact Nat.le_refl _
  inj := fun i j d e h _ _ => by
    unfold stS at h
    by_cases hi : i < ds.length
    · rw [List.getElem?_append_left (by simpa using hi), List.getElem?_map] at h
      obtain ⟨e, h1, h2⟩ := Option.map_eq_some_iff.mp h
      cases h2
    · rw [List.getElem?_append_right (by simpa using hi), List.getElem?_replicate] at h
      split at h <;> cases h
theorem def_ok {p : Pg} {k : Nat} {f : Addr} {name qual : Str} {params : Arguments} {body : List Stmt} {scope : Scope} {dV kV doc pm cdv ct oc : Value} {an od : Option Addr} {osl : Array (Option Value)} {N ps : List Str} {r : Env' → Store → Option Out}
    (lk : p.K.lookup f = some ⟨oc, od, .func (PySem.W.fnOf name qual params body scope dV kV doc pm an cdv ct), osl⟩) (hcd : PySem.W.codeIn p.K cdv qual = true) (sc : FnScope N ps scope)
    (hb : ∀ X, Good p N scope (fun _ => true) k X → ∀ ρ S, FSs p X ρ S body (r ρ S)) :
    FnG p (k + 1) f (PySem.W.fnOf name qual params body scope dV kV doc pm an cdv ct) ps (fun ds S => if ds.length = ps.length then (r (stS N ps ds) S).bind outR else none) := by
  refine ⟨fun ds S q h => ?_, fun A outer s H args us vs ds S S' d Pr F ι hr hg e0 hbd rv rs W e => ?_⟩
  · split at h
    · assumption
    · cases h
  · split at e
    case isFalse => cases e
    rename_i hl
    obtain ⟨o, e1, e2⟩ := Option.bind_eq_some_iff.mp e
    have hl2 : vs.length = ps.length := by rw [rs.length]; exact hl
    have KX : p.K.In s.heap := e0.mod.kin.keeps fun b ob z => (e0.bs b ob z).1
    have lim : s.heap.NoLimit := e0.mod.nolimit.keeps fun b ob z => (e0.bs b ob z).1
    have kinds : ∀ y ∈ ps.zip us, scope.names.lookup y.1 = some .local ∨ (scope.names.lookup y.1 = some .cell ∧ ((cellsFrom (s.heap.objs.size + 1) scope.names []).lookup y.1).isSome = true) := fun ⟨n, v⟩ hy =>
      (sc.par n (List.of_mem_zip hy).1).imp id fun z => ⟨z, PySem.W.cellsFrom_some _ _ _ (.inl z)⟩
    refine codeAny_call_function hr.depth (KX _ _ lk) rfl sc.co sc.gen rfl (PySem.W.codeRec_of KX hcd) (hbd _ _ _ _ ?_)
    refine wpAny_newFunctionEnv_cells sc.kind kinds fun env he s1 x => ?_
    subst he
    refine ⟨lim.keeps x.toInCall.keep, codeAny_func ?_⟩
    have I : Inv (cxOf CX0 p.P p.w p.K p.mg p.base N qual scope f cdv A outer s H E0) [] (L2.start N vs) H s1 := inv_start sc hr.hd e0 hl2 rv x
    have good : Good p N scope (fun _ => true) k (cxOf CX0 p.P p.w p.K p.mg p.base N qual scope f cdv A outer s H E0).nox := {
      pg := rfl
      calm := rfl
      hN := rfl
      nd := sc.nd
      sc := rfl
      fn := rfl
      xe := rfl
      room := hr.deeper _
      grd := hg }
    have pss : PSs (cxOf CX0 p.P p.w p.K p.mg p.base N qual scope f cdv A outer s H E0) body (wSs (cxOf CX0 p.P p.w p.K p.mg p.base N qual scope f cdv A outer s H E0).nox body) := PSs.nox pssW
    have fin : ∀ {σ' : L2.St} {H' : Hp} {v : V} {u : Value} {s' : Shared}, Inv (cxOf CX0 p.P p.w p.K p.mg p.base N qual scope f cdv A outer s H E0) [] σ' H' s' → RelV v u → Back p Pr F ι d S' v H' → CE outer p.P p.w H s (Back p Pr F ι d S') u s' :=
      fun {σ' H' v u s'} J z q => ⟨v, H', J.os, J.bare, J.base, J.hok, z, q⟩
    refine wpAny_mono (pss.run [] s1 (L2.start N vs) H { nx := fun _ H' => Back p Pr F ι d S' .non H', rt := Back p Pr F ι d S' } I (hb _ good _ S Pr F ι (fun _ => 0) _ H (rel_start _ W rs hl) o e1 _ ?_)) (fun fl s' hs => ?_) fun ex s' hs => ?_
    · cases o with
      | nxt ρ2 S2 =>
        cases e2
        exact fun F' ι' α' σ' H' R' l m => ⟨F', ι', R'.wd, l, m, .non⟩
      | ret d2 S2 =>
        cases e2
        exact fun v F' ι' H' W' l m z => ⟨F', ι', W', l, m, z⟩
      | brk ρ2 S2 => cases e2
      | cnt ρ2 S2 => cases e2
    · cases fl with
      | ret u =>
        obtain ⟨v, σ', H', J, z, q⟩ := hs
        exact ⟨u, rfl, fin J z q⟩
      | next =>
        obtain ⟨σ', H', J, q⟩ := hs
        exact ⟨.none, rfl, fin (v := V.non) (u := Value.none) J rfl q⟩
      | brk =>
        obtain ⟨_, _, _, q⟩ := hs
        exact False.elim q
      | cont =>
        obtain ⟨_, _, _, q⟩ := hs
        exact False.elim q
    · exact wpAny_mono hs (fun _ _ z => False.elim z) (fun _ _ z => False.elim z)
end Z

set_option Elab.async false
set_option linter.all false
set_option maxRecDepth 100000
set_option maxHeartbeats 4000000
namespace Z
open PySem PySem.Spec PyProof.Rows L2

/-! # what must be seen of the text -/
def noCall : Expr → Bool
  | .Call _ [] _ _ => false
  | _ => true
theorem attr_ok {e : Expr} {f : Str} {env : Env} {w : Sem Value} (h : noCall e = true) : attributeBase e f env w = w := by
  unfold attributeBase
  cases e <;> try rfl
  rename_i fe args kws pos
  cases args with
  | nil => cases h
  | cons a as => cases fe <;> rfl
def noSet : Expr → Bool
  | .Set _ _ _ => false
  | _ => true
theorem mark_ok {o : CmpOp} {e : Expr} (h : noSet e = true) : behindInMarks o e = false := by
  cases e <;> first | rfl | cases h
theorem fold_ok {e : Expr} {env : Env} (h : noSet e = true) (x : Value) : foldedSetIterable e env x = pure x := by
  cases e <;> first | rfl | cases h
def isComp : Expr → Bool
  | .ListComp _ _ _ _ => true | .SetComp _ _ _ _ => true | .DictComp _ _ _ _ _ => true
  | _ => false
def isName : Expr → Bool
  | .Name _ _ => true
  | _ => false
theorem sw_no {v : Expr} {t : Option Expr} {l : Nat} {env : Env} (h : isComp v = false) : swapsWith v t l env = pure false := by
  cases v <;> first | rfl | cases h
theorem sw_tg {v t : Expr} {l : Nat} {env : Env} (h : isComp v = false ∨ isName t = false) : swapsWith v (some t) l env = pure false := by
  rcases h with h | h
  · exact sw_no h
  · cases v <;> first | rfl | (cases t <;> first | rfl | cases h)
/-- no plain name of the def's own -/
def offLoc (sc : Scope) : Expr → Bool
  | .Name x _ => decide (sc.names.lookup x ≠ some .local)
  | _ => true
theorem sw_off {v t : Expr} {l : Nat} {env : Env} {sc : Scope} (he : env.scope = sc) (h : isComp v = false ∨ offLoc sc t = true) : swapsWith v (some t) l env = pure false := by
  rcases h with h | h
  · exact sw_no h
  · cases t with
    | Name x p =>
      have hn : (env.kindOf x == some NameKind.local) = false := by
        unfold Env.kindOf
        rw [he, beq_eq_false_iff_ne]
        exact of_decide_eq_true h
      have hz : ∀ (a b c : Bool), (a && (env.kindOf x == some NameKind.local) && b && c) = false := fun a b c => by rw [hn]; simp
      cases v <;> first | rfl | (unfold swapsWith; simp only [hz])
    | _ => exact sw_tg (.inr rfl)
theorem sws_off {v t : Expr} {l : Nat} {env : Env} {sc : Scope} (he : env.scope = sc) (h : isComp v = false ∨ offLoc sc t = true) : swapsWithSole [t] v l env = pure false := sw_off he h
theorem sws_tg {v t : Expr} {l : Nat} {env : Env} (h : isComp v = false ∨ isName t = false) : swapsWithSole [t] v l env = pure false := sw_tg h
def bigTup : Expr → Bool
  | .Tuple es _ _ => decide (4 ≤ es.length)
  | _ => false
/-- no stores from the right -/
def noSwap (sc : Scope) (t v : Expr) : Bool := match t, v with
  | .Tuple ts _ _, .Tuple vs _ _ => decide (4 ≤ ts.length) || (vs.all (foldedForSure 8) || ts.any (offLoc sc))
  | .List _ _, _ => false
  | _, _ => true
theorem ss_no {t v : Expr} {env : Env} {sc : Scope} (he : env.scope = sc) (h : noSwap sc t v = true) : swappedStores [t] v env = pure none := by
  unfold swappedStores
  cases t <;> try rfl
  · cases h
  · cases v <;> try rfl
    rename_i ts k pos vs k2 pos2
    have h : (decide (4 ≤ ts.length) || (vs.all (foldedForSure 8) || ts.any (offLoc sc))) = true := h
    simp only
    split
    · rfl
    rename_i hn
    split
    · rfl
    split
    · rfl
    rename_i hl
    rw [Bool.or_eq_true, Bool.or_eq_true] at h
    rcases h with h | h | h
    · exfalso
      have h : 4 ≤ ts.length := by simpa using h
      have a : (ts.length == 2) = false := by rw [beq_eq_false_iff_ne]; omega
      have b : (ts.length == 3) = false := by rw [beq_eq_false_iff_ne]; omega
      rw [a, b] at hn
      exact hn rfl
    · rw [if_pos h]
    · exfalso
      obtain ⟨e, he1, he2⟩ := List.any_eq_true.mp h
      simp only [Bool.or_eq_true, not_or, bne_iff_ne, ne_eq, Decidable.not_not] at hl
      have hlen := hl.1
      have : ∀ {α β : Type} (f : α → Option β) (l : List α) (x : α), x ∈ l → f x = none → (l.filterMap f).length < l.length := by
        intro α β f l x hx hf
        induction l with
        | nil => cases hx
        | cons y l ih =>
          have hle := List.length_filterMap_le f l
          rcases List.mem_cons.mp hx with rfl | hx
          · rw [List.filterMap_cons_none hf, List.length_cons]; omega
          · have := ih hx
            cases hy : f y with
            | none => rw [List.filterMap_cons_none hy, List.length_cons]; omega
            | some z => rw [List.filterMap_cons_some hy, List.length_cons, List.length_cons]; omega
      refine absurd hlen (Nat.ne_of_lt (this _ _ e he1 ?_))
      cases e <;> try rfl
      rename_i x p
      have hx : (env.kindOf x == some NameKind.local) = false := by
        unfold Env.kindOf
        rw [he, beq_eq_false_iff_ne]
        exact of_decide_eq_true he2
      simp [hx]
section
variable {X : Cx} {sc : Scope}
theorem blk_kind {env : Env} (h : env.scope = sc) (k : sc.kind = .function) : env.blockKind = .function := by
  unfold Env.blockKind
  rw [h, k]; rfl
/-- two names, two values, stored from the right -/
def swap2 (sc : Scope) (x y : Str) (px py : Pos) (vs : List Expr) : Bool :=
  decide (sc.names.lookup x = some .local) && (decide (sc.names.lookup y = some .local) && ((py.line == px.line) && (decide (x ≠ y) && (decide (vs.length = 2) && (!(vs.any isStar) && (!(vs.all (foldedForSure 8)) && !(vs.all (constantsAlone 8))))))))
def swap3 (sc : Scope) (x y z : Str) (px py pz : Pos) (vs : List Expr) : Bool :=
  decide (sc.names.lookup x = some .local) && (decide (sc.names.lookup y = some .local) && (decide (sc.names.lookup z = some .local) && ((py.line == px.line) && ((pz.line == px.line) && (decide (x ≠ y ∧ x ≠ z ∧ y ≠ z) && (decide (vs.length = 3) && (!(vs.any isStar) && (!(vs.all (foldedForSure 8)) && !(vs.all (constantsAlone 8))))))))))
theorem ss_two {env : Env} {x y : Str} {px py pt : Pos} {vs : List Expr} {kt k2 : Nat} {pt2 : Pos} (he : env.scope = sc) (k : sc.kind = .function) (h : swap2 sc x y px py vs = true) : swappedStores [.Tuple [.Name x px, .Name y py] kt pt] (.Tuple vs k2 pt2) env = pure (some [x, y]) := by
  unfold swap2 at h
  simp only [Bool.and_eq_true, decide_eq_true_eq, Bool.not_eq_true'] at h
  obtain ⟨h1, h2, h3, h4, h5, h6, h7, h8⟩ := h
  have hb := blk_kind he k
  unfold swappedStores
  have l1 : env.kindOf x = some .local := by unfold Env.kindOf; rw [he]; exact h1
  have l2 : env.kindOf y = some .local := by unfold Env.kindOf; rw [he]; exact h2
  have l3 : (Expr.Name x px).pos.line = px.line := rfl
  have e1 : ([x, y] : List Str).eraseDups.length = 2 := by
    have : (y == x) = false := by simpa using fun z => h4 z.symm
    simp [List.eraseDups_cons, this]
  simp only [h5, hb, h6, h7, h8, List.length_cons, List.length_nil, List.head?_cons, Option.map_some, Option.getD_some, l3, List.filterMap_cons, List.filterMap_nil, l1, l2, h3]
  simp [e1]
  intro e hm hs
  exfalso
  have := List.any_eq_false.mp h6 e hm
  cases e <;> first | exact this rfl | cases hs
theorem ss_three {env : Env} {x y z : Str} {px py pz pt : Pos} {vs : List Expr} {kt k2 : Nat} {pt2 : Pos} (he : env.scope = sc) (k : sc.kind = .function) (h : swap3 sc x y z px py pz vs = true) : swappedStores [.Tuple [.Name x px, .Name y py, .Name z pz] kt pt] (.Tuple vs k2 pt2) env = pure (some [x, y, z]) := by
  unfold swap3 at h
  simp only [Bool.and_eq_true, decide_eq_true_eq, Bool.not_eq_true'] at h
  obtain ⟨h1, h2, h3, h4, h4', h5, h6, h7, h8, h9⟩ := h
  have hb := blk_kind he k
  unfold swappedStores
  have l1 : env.kindOf x = some .local := by unfold Env.kindOf; rw [he]; exact h1
  have l2 : env.kindOf y = some .local := by unfold Env.kindOf; rw [he]; exact h2
  have l4 : env.kindOf z = some .local := by unfold Env.kindOf; rw [he]; exact h3
  have l3 : (Expr.Name x px).pos.line = px.line := rfl
  have e1 : ([x, y, z] : List Str).eraseDups.length = 3 := by
    have a : (y == x) = false := by simpa using fun w => h5.1 w.symm
    have b : (z == x) = false := by simpa using fun w => h5.2.1 w.symm
    have c : (z == y) = false := by simpa using fun w => h5.2.2 w.symm
    simp [List.eraseDups_cons, a, b, c]
  simp only [h6, hb, h7, h8, h9, List.length_cons, List.length_nil, List.head?_cons, Option.map_some, Option.getD_some, l3, List.filterMap_cons, List.filterMap_nil, l1, l2, l4, h4, h4']
  simp [e1]
  intro e hm hs
  exfalso
  have := List.any_eq_false.mp h7 e hm
  cases e <;> first | exact this rfl | cases hs
/-- name = [..] on one line -/
def swapC (sc : Scope) (x : Str) (ps cp : Pos) (scope : Scope) : Bool := decide (sc.names.lookup x = some .local) && ((ps.line == cp.line) && !(scope.names.any fun (n, k) => n == x && (k == .local || k == .cell)))
theorem sw_comp {env : Env} {x : Str} {ps cp : Pos} {scope : Scope} {elt : Expr} {gs : List Comprehension} {l : Nat} (he : env.scope = sc) (k : sc.kind = .function) (h : swapC sc x ps cp scope = true) : swapsWith (.ListComp elt gs scope cp) (some (.Name x ps)) l env = pure true := by
  unfold swapC at h
  simp only [Bool.and_eq_true, decide_eq_true_eq] at h
  obtain ⟨h1, h2, h3⟩ := h
  have hb := blk_kind he k
  have l1 : env.kindOf x = some .local := by unfold Env.kindOf; rw [he]; exact h1
  have l2 : (Expr.ListComp elt gs scope cp).pos.line = cp.line := rfl
  show pure (env.blockKind == .function && env.kindOf x == some .local && ps.line == (Expr.ListComp elt gs scope cp).pos.line && !(scope.names.any fun (n, k) => n == x && (k == .local || k == .cell))) = pure true
  rw [hb, l1, l2, h2, h3]; rfl
/-- o.m(..) at one line -/
theorem meth_ok {o : Expr} {m : Str} {apos pos : Pos} {es : List Expr} {env : Env} (hb : noCall o = true) (hs : (es.all fun e => !isStar e) = true) (hn : es.length < 30) (hl : (apos.endLine == pos.line) = true) :
    eval (.Call (.Attribute o m apos) es [] pos) env = (do
      let ov ← eval o env
      standAt apos.atName
      let (f, first) ← holding [ov] (getMethod ov m (do return (← importBound o env).getD true))
      callWith pos f first (backTo pos (starEach es env)) (backToKw pos (keywordEach [] env))) := by
  rw [arm_eval_Call, attr_ok hb]
  have hform : methodCallForm (es.length + ([] : List Keyword).length) (backTo pos (starEach es env)) (backToKw pos (keywordEach [] env)) = true := few_of hs hn
  have hpos : methodCallPos true o env apos pos = pure pos := by unfold methodCallPos; simp [hl]
  unfold methodCall
  rw [hform]
  congr 1
  funext ov
  congr 1
  funext _
  unfold calleeOf
  simp only [if_true]
  congr 1
  funext r
  obtain ⟨f, first⟩ := r
  show (do let callPos ← methodCallPos true o env apos pos; callWith callPos f first (backTo pos (starEach es env)) (backToKw pos (keywordEach [] env))) = _
  rw [hpos]
  rfl
theorem m1_ok {o e : Expr} {m : Str} {apos cp : Pos} (hb : noCall o = true) (h0 : isStar e = false) (hl : (apos.endLine == cp.line) = true) : M1 X o m apos e cp where
  base := attr_ok hb
  few := few_of (by simp [h0]) (by simp)
  line := hl
  trees := by rw [star_cons h0]; rfl
theorem m2_ok {o e f : Expr} {m : Str} {apos cp : Pos} (hb : noCall o = true) (h0 : isStar e = false) (h1 : isStar f = false) (hl : (apos.endLine == cp.line) = true) : M2 X o m apos e f cp where
  base := attr_ok hb
  few := few_of (by simp [h0, h1]) (by simp)
  line := hl
  trees := by rw [star_cons h0, star_cons h1]; rfl
end
end Z

set_option Elab.async false
set_option linter.all false
set_option maxRecDepth 100000
set_option maxHeartbeats 4000000
namespace Z
open PySem PySem.Spec PyProof.Rows L2
section
variable {p : Pg} {N : List Str} {sc : Scope} {fn : Str → Bool} {k : Nat} {X : Cx} {G : Fns} {ρ : Env'} {S : Store} {pos : Pos}
theorem reps_int {K : PySem.W.Frag} {F : Hp} {ι : List Addr} (f : Nat → Int) : ∀ l : List Nat, Reps K F ι (l.map fun i => V.int (f i)) (l.map fun i => D.int (f i))
  | [] => .nil
  | i :: l => .cons (.int _) (reps_int f l)
theorem fn_lrng {ea eb : Expr} {a b : Ex} {x y : Str} {ps ps2 pos2 : Pos} (g : Good p N sc fn k X) (hx : x = "list") (hy : y = "range") (gx : sc.names.lookup x = some .globalImplicit) (mx : p.mg x = none) (gy : sc.names.lookup y = some .globalImplicit) (my : p.mg y = none) (h0 : isStar ea = false) (h1 : isStar eb = false)
    (ha : FE p X ρ S ea (evE G a ρ S)) (hb : ∀ S, FE p X ρ S eb (evE G b ρ S)) : FN p X ρ S (.Call (.Name x ps) [.Call (.Name y ps2) [ea, eb] [] pos2] [] pos) (evE G (.lrng a b) ρ S) := by
  intro Pr F ι α σ H R d S' e Q q
  rw [evE] at e
  obtain ⟨⟨u, S1⟩, e1, e⟩ := Option.bind_eq_some_iff.mp e
  obtain ⟨⟨v, S2⟩, e2, e⟩ := Option.bind_eq_some_iff.mp e
  obtain ⟨i, e3, e⟩ := Option.bind_eq_some_iff.mp e
  obtain ⟨j, e4, e⟩ := Option.bind_eq_some_iff.mp e
  split at e
  · rename_i hz
    cases e
    simp only [Bool.and_eq_true, decide_eq_true_eq] at hz
    obtain ⟨z1, z2, z3⟩ := hz
    unfold smallI at z1 z2
    simp only [Bool.and_eq_true, decide_eq_true_eq] at z1 z2
    have GX : Gl X x := by show X.env.scope.names.lookup x = _; rw [g.sc]; exact gx
    have MX : X.mg x = none := by rw [← mx, ← g.pg]; rfl
    have GY : Gl X y := by show X.env.scope.names.lookup y = _; rw [g.sc]; exact gy
    have MY : X.mg y = none := by rw [← my, ← g.pg]; rfl
    subst hx hy
    cases intOf_eq e3
    cases intOf_eq e4
    have hpl : ([eb].all fun e => !isStar e) = true := by simp [h1]
    refine wE_of (pe_listRg g.calm GX MX (prg_2 GY MY peW peW (star_cons h0) (star_cons h1) (star_all hpl).1) (star_cons rfl)) ?_
    refine ha Pr F ι α σ H R _ _ e1 _ fun x F1 ι1 H1 R1 l1 m1 r1 => ?_
    refine hb S1 Pr F1 ι1 α σ H1 R1 _ _ e2 _ fun y F2 ι2 H2 R2 l2 m2 r2 => ?_
    cases r1
    cases r2
    refine ⟨i, j, rfl, rfl, ⟨z1.1, z1.2, z2.1, z2.2, by omega⟩, fun c hc => ?_⟩
    obtain ⟨R3, f3⟩ := R2.alloc (d := .lst (rngD i (j - i).toNat)) (o := .lst (rgV i j)) hc fun G g => ⟨_, g, reps_int (fun (k : Nat) => i + (k : Int)) _⟩
    exact q c F2 ι2 _ R3 (l1.trans l2) (m1.trans m2) f3
  · cases e
def cV : Cst → V
  | .non => .non | .bl b => .bl b | .int i => .int i | .str x => .str x
def cstB' (c : Cst) (k : Const) : Bool := match c, k with
  | .non, .none => true | .bl b, .bool b' => decide (b = b') | .int i, .int i' => decide (i = i') | .str x, .str y => decide (x = y)
  | _, _ => false
def ccsB : List (Cst × Cst) → List (Option Expr) → List Expr → Bool
  | [], [], [] => true
  | (a, b) :: r, some (.Constant ka _ _) :: ks, .Constant kb _ _ :: vs => cstB' a ka && (cstB' b kb && ccsB r ks vs)
  | _, _, _ => false
theorem pc_ok {c : Cst} {kc : Const} {j : Nat} (h : cstB' c kc = true) : ∃ t, PE X (.Constant kc j pos) t ∧ ∀ σ H (Q : VK), Q (cV c) H → t σ H Q := by
  cases c <;> cases kc <;> simp [cstB'] at h
  · exact ⟨_, pe_non, fun σ H Q q => q⟩
  · subst h; exact ⟨_, pe_bl, fun σ H Q q => q⟩
  · subst h; exact ⟨_, pe_int, fun σ H Q q => q⟩
  · subst h; exact ⟨_, pe_str, fun σ H Q q => q⟩
theorem pps_ok : ∀ {kvs : List (Cst × Cst)} {ks : List (Option Expr)} {vs : List Expr}, ccsB kvs ks vs = true → ks.length = kvs.length ∧ vs.length = kvs.length ∧ ks.all (·.isSome) = true ∧ ∃ trs, PPs X pos ks vs trs ∧ ∀ σ H (Q : List (V × V) → Hp → Prop), Q (kvs.map fun q => (cV q.1, cV q.2)) H → tPairs trs σ H Q
  | [], [], [], _ => ⟨rfl, rfl, rfl, [], pps_nil, fun _ _ _ q => q⟩
  | (a, b) :: r, some (.Constant ka ja pa) :: ks, .Constant kb jb pb :: vs, h => by
    simp only [ccsB, Bool.and_eq_true] at h
    obtain ⟨t1, p1, q1⟩ := pc_ok (X := X) (j := ja) (pos := pa) h.1
    obtain ⟨t2, p2, q2⟩ := pc_ok (X := X) (j := jb) (pos := pb) h.2.1
    obtain ⟨l1, l2, l3, trs, p3, q3⟩ := pps_ok h.2.2
    refine ⟨by simp [l1], by simp [l2], by simpa using l3, (t1, t2) :: trs, pps_cons p1 p2 p3, fun σ H Q q => ?_⟩
    exact q1 _ _ _ (q2 _ _ _ (q3 _ _ _ q))
theorem dsp_ok {K : PySem.W.Frag} {F : Hp} {ι : List Addr} : ∀ {kvs : List (Cst × Cst)} {es : List (Key × D)}, dsp (kvs.map fun q => q.1.d) (kvs.map fun q => q.2.d) = some es → ∃ m : List (Key × V), (kvs.map fun q => (cV q.1, cV q.2)) = m.map (fun kv => (kV kv.1, kv.2)) ∧ RKV K F ι m es
  | [], es, h => by cases h; exact ⟨[], rfl, rfl, .nil⟩
  | (a, b) :: r, es, h => by
    simp only [List.map_cons, dsp] at h
    split at h
    · rename_i k es' h1 h2
      cases h
      obtain ⟨m, e1, e2⟩ := dsp_ok (K := K) (F := F) (ι := ι) h2
      refine ⟨(k, cV b) :: m, ?_, ?_⟩
      · rw [List.map_cons, List.map_cons, e1]
        congr 2
        cases a <;> simp [Cst.d, keyK] at h1 <;> (subst h1; rfl)
      · refine ⟨by rw [List.map_cons, List.map_cons, e2.1], .cons ?_ e2.2⟩
        cases b
        · exact .non
        · exact .bl _
        · exact .int _
        · exact .str _
    · cases h
theorem rkv_fold {K : PySem.W.Frag} {F : Hp} {ι : List Addr} : ∀ {m : List (Key × V)} {es : List (Key × D)} {m0 : List (Key × V)} {es0 : List (Key × D)}, RKV K F ι m es → RKV K F ι m0 es0 → RKV K F ι (mergeK m0 m) (es.foldl (fun acc e => dput acc e.1 e.2) es0)
  | [], [], _, _, _, h => h
  | [], _ :: _, _, _, h, _ => by have := h.len; simp at this
  | _ :: _, [], _, _, h, _ => by have := h.len; simp at this
  | (k, v) :: m, (k', d) :: es, m0, es0, h, h0 => by
    obtain ⟨h1, h2⟩ := h
    simp only [List.map_cons, List.cons.injEq] at h1
    obtain ⟨rfl, h1⟩ := h1
    simp only [List.map_cons] at h2
    cases h2 with
    | cons hv hr => exact rkv_fold (m := m) (es := es) ⟨h1, hr⟩ (RKV.put k hv h0)
theorem upd_upd {H : Hp} {a : Addr} {o o' : HO} : upd (upd H a o) a o' = upd H a o' := by
  funext x
  by_cases h : x = a
  · subst h; rw [upd_same, upd_same]
  · rw [upd_ne h, upd_ne h, upd_ne h]
theorem fn_dcst {kvs : List (Cst × Cst)} {ks : List (Option Expr)} {vs : List Expr} (h : ccsB kvs ks vs = true) : FN p X ρ S (.Dict ks vs pos) (evE G (.dcst kvs) ρ S) := by
  intro Pr F ι α σ H R d S' e Q q
  rw [evE] at e
  obtain ⟨es, e1, e⟩ := Option.bind_eq_some_iff.mp e
  split at e
  · rename_i hz
    cases e
    obtain ⟨l1, l2, l3, trs, p3, q3⟩ := pps_ok (X := X) (pos := pos) h
    obtain ⟨m, em, rm⟩ := dsp_ok (K := p.K) (F := F) (ι := ι) e1
    have hml : m.length = kvs.length := by have := congrArg List.length em; simpa using this.symm
    have hes : es.length = m.length := rm.len.symm
    have hne : ks ≠ [] := by
      intro z
      rw [z] at l1
      have : es.length = 0 := by rw [hes, hml, ← l1]; rfl
      exact hz.2 (List.length_eq_zero_iff.mp this)
    refine wE_of (pe_disp p3 l3 (by omega) hne (by omega)) fun c hc => q3 _ _ _ ⟨upd_same, m, em, by omega, ?_⟩
    rw [upd_upd]
    have hc2 : (H c) = none := hc
    obtain ⟨R2, f2⟩ := R.alloc (d := .dK (es.foldl (fun acc e => dput acc e.1 e.2) [])) (o := .dK (mergeK [] m)) hc2 fun G g => ⟨_, g, (rkv_fold rm ⟨rfl, .nil⟩).1, (rkv_fold rm ⟨rfl, .nil⟩).2⟩
    exact q c F ι _ R2 (LeH.refl _) (LeA.refl _) f2
  · cases e
end
end Z

set_option Elab.async false
set_option linter.all false
set_option maxRecDepth 100000
set_option maxHeartbeats 4000000
namespace Z
open PySem PySem.Spec PyProof.Rows L2

/-! # the text and its short form -/
structure Tb where
  con : List (Str × GC)
  bn : List Str
structure TbOk (p : Pg) (T : Tb) : Prop where
  con : ∀ x g, (x, g) ∈ T.con → p.con x = some g.d
  bn : ∀ x, x ∈ T.bn → p.mg x = none
def dbg (x : Str) : Bool := !(x == ("__debug__" : Str)) && !(x == ("__classdict__" : Str))
def visB (sc : Scope) (x : Str) : Bool := match sc.names.lookup x with
  | some .local => true | some .cell => true | some .free => true
  | _ => false
def stB (sc : Scope) (fn : Str → Bool) (x : Str) : Bool := match sc.names.lookup x with
  | some .local => true
  | some .cell => fn x
  | _ => false
def glB (sc : Scope) (x : Str) : Bool := decide (sc.names.lookup x = some .globalImplicit) && dbg x
def cstB (c : Cst) (k : Const) : Bool := match c, k with
  | .non, .none => true | .bl b, .bool b' => decide (b = b') | .int i, .int i' => decide (i = i') | .str x, .str y => decide (x = y)
  | _, _ => false
def nmsB (N : List Str) (sc : Scope) (fn : Str → Bool) : List Nat → List Expr → Bool
  | [], [] => true
  | i :: is, e :: es => (match e with
    | .Name x _ => decide (N[i]? = some x) && stB sc fn x
    | _ => false) && nmsB N sc fn is es
  | _, _ => false
def tgB (N : List Str) (sc : Scope) (fn : Str → Bool) (t : Tg) (tg : Expr) : Bool := match t with
  | .nm i => (match tg with
    | .Name x _ => decide (N[i]? = some x) && stB sc fn x
    | _ => false)
  | .nms is => (match tg with
    | .Tuple es _ _ => nmsB N sc fn is es
    | _ => false)
def ownL (N : List Str) (t : Tg) : List (Str × Nat) := t.ix.map fun i => (N.getD i Str.empty, i)
def notSl : Expr → Bool
  | .Slice _ _ _ _ => false
  | _ => true
def isFr : Ex → Bool
  | .list _ => true
  | .dnew _ => true
  | .comp _ _ _ _ => true
  | .dcomp _ _ _ _ _ => true
  | .blt .list _ => true
  | .blt .sorted _ => true
  | .lrng _ _ => true
  | .dcst _ => true
  | _ => false
def isB : CmpOp → Bool → Bool
  | .Is, n => !n
  | .IsNot, n => n
  | _, _ => false
mutual
def chkE (T : Tb) (N : List Str) : Scope → Ex → Expr → Bool
  | sc, .var i, e => (match e with
    | .Name x _ => decide (N[i]? = some x) && (visB sc x && dbg x)
    | _ => false)
  | sc, .cst c, e => (match e with
    | .Constant k _ _ => cstB c k
    | _ => false)
  | sc, .glb x g, e => (match e with
    | .Name y _ => decide (x = y) && (glB sc y && decide ((x, g) ∈ T.con))
    | _ => false)
  | sc, .bin o a b, e => (match e with
    | .BinOp ea o' eb _ => decide (o = o') && (chkE T N sc a ea && chkE T N sc b eb)
    | _ => false)
  | sc, .neg a, e => (match e with
    | .UnaryOp .USub ea _ => chkE T N sc a ea
    | _ => false)
  | sc, .not a, e => (match e with
    | .UnaryOp .Not ea _ => chkE T N sc a ea
    | _ => false)
  | sc, .and a b, e => (match e with
    | .BoolOp .And (ea :: eb :: es) pos => chkE T N sc a ea && (match es with
      | [] => chkE T N sc b eb
      | _ :: _ => chkE T N sc b (.BoolOp .And (eb :: es) pos))
    | _ => false)
  | sc, .or a b, e => (match e with
    | .BoolOp .Or (ea :: eb :: es) pos => chkE T N sc a ea && (match es with
      | [] => chkE T N sc b eb
      | _ :: _ => chkE T N sc b (.BoolOp .Or (eb :: es) pos))
    | _ => false)
  | sc, .ife c a b, e => (match e with
    | .IfExp ec ea eb _ => chkE T N sc c ec && (chkE T N sc a ea && chkE T N sc b eb)
    | _ => false)
  | sc, .cmp o a b, e => (match e with
    | .Compare ea [o'] [eb] _ => decide (o = o') && (noSet eb && (chkE T N sc a ea && chkE T N sc b eb))
    | _ => false)
  | sc, .chn o o' a b c, e => (match e with
    | .Compare ea [q, q'] [eb, ec] _ => decide (o = q) && (decide (o' = q') && (noSet ec && (chkE T N sc a ea && (chkE T N sc b eb && chkE T N sc c ec))))
    | _ => false)
  | sc, .iso n a b, e => (match e with
    | .Compare ea [o] [eb] _ => isB o n && (noSet eb && (chkE T N sc a ea && chkE T N sc b eb))
    | _ => false)
  | sc, .tup as, e => (match e with
    | .Tuple es _ _ => chkA T N sc as es
    | _ => false)
  | sc, .list as, e => (match e with
    | .List es _ => chkA T N sc as es
    | _ => false)
  | sc, .dnew _, e => (match e with
    | .Dict [] [] _ => true
    | _ => false)
  | _, .disp _ _, _ => false
  | sc, .idx a b, e => (match e with
    | .Subscript ea eb _ => notSl eb && (chkE T N sc a ea && chkE T N sc b eb)
    | _ => false)
  | sc, .sl a lo hi, e => (match e with
    | .Subscript ea (.Slice l h none _) _ => chkE T N sc a ea && (chkA T N sc lo l.toList && chkA T N sc hi h.toList)
    | _ => false)
  | sc, .rev a, e => (match e with
    | .Subscript ea (.Slice none none (some (.UnaryOp .USub (.Constant (.int 1) _ _) _)) _) _ => chkE T N sc a ea
    | _ => false)
  | sc, .fld a f, e => (match e with
    | .Attribute ea f' _ => decide (f = f') && (noCall ea && chkE T N sc a ea)
    | _ => false)
  | sc, .call f as, e => (match e with
    | .Call (.Name x _) es [] _ => decide (f = x) && (glB sc x && chkA T N sc as es)
    | _ => false)
  | sc, .mk f as, e => (match e with
    | .Call (.Name x _) es [] _ => decide (f = x) && (glB sc x && chkA T N sc as es)
    | _ => false)
  | sc, .meth o m as, e => (match e with
    | .Call (.Attribute eo m' apos) es [] pos => decide (m = m') && (noCall eo && ((apos.endLine == pos.line) && (decide (es.length < 30) && (chkE T N sc o eo && chkA T N sc as es))))
    | _ => false)
  | sc, .blt b as, e => (match e with
    | .Call (.Name x _) (e :: es) [] _ => decide (x = b.name) && (glB sc x && (decide (x ∈ T.bn) && (decide (b ≠ .setLen) && chkA T N sc as (e :: es))))
    | _ => false)
  | sc, .get o k, e => (match e with
    | .Call (.Attribute eo m apos) [ek] [] pos => decide (m = "get") && (noCall eo && ((apos.endLine == pos.line) && (!isStar ek && (chkE T N sc o eo && chkE T N sc k ek))))
    | _ => false)
  | sc, .getd o k x, e => (match e with
    | .Call (.Attribute eo m apos) [ek, ex] [] pos => decide (m = "get") && (noCall eo && ((apos.endLine == pos.line) && (!isStar ek && (!isStar ex && (chkE T N sc o eo && (chkE T N sc k ek && chkE T N sc x ex))))))
    | _ => false)
  | sc, .comp t it c a, e => (match e with
    | .ListComp elt [⟨tg, iter, ifs, asy⟩] scope _ => decide (asy = 0) && (blkC N sc scope (ownL N t) && (tgB N (relS scope sc) (fnB scope) t tg && (noSet iter && (decide (ifs.length ≤ 1) && (chkI T N sc it tg iter && (chkA T N (relS scope sc) c ifs && chkE T N (relS scope sc) a elt))))))
    | _ => false)
  | sc, .dcomp t it c a b, e => (match e with
    | .DictComp kx vx [⟨tg, iter, ifs, asy⟩] scope _ => decide (asy = 0) && (blkC N sc scope (ownL N t) && (tgB N (relS scope sc) (fnB scope) t tg && (noSet iter && (decide (ifs.length ≤ 1) && (chkI T N sc it tg iter && (chkA T N (relS scope sc) c ifs && (chkE T N (relS scope sc) a kx && chkE T N (relS scope sc) b vx)))))))
    | _ => false)
  | sc, .mref a, e => isFr a && chkE T N sc a e
  | sc, .lrng a b, e => (match e with
    | .Call (.Name x _) [.Call (.Name y _) [ea, eb] [] _] [] _ => decide (x = "list") && (decide (y = "range") && (glB sc x && (glB sc y && (decide (x ∈ T.bn) && (decide (y ∈ T.bn) && (!isStar ea && (!isStar eb && (chkE T N sc a ea && chkE T N sc b eb))))))))
    | _ => false)
  | _, .dcst kvs, e => (match e with
    | .Dict ks vs _ => ccsB kvs ks vs
    | _ => false)
def chkA (T : Tb) (N : List Str) : Scope → Ar → List Expr → Bool
  | sc, .nil, es => (match es with
    | [] => true
    | _ => false)
  | sc, .cons a as, es => (match es with
    | e :: es => !isStar e && (chkE T N sc a e && chkA T N sc as es)
    | _ => false)
def chkI (T : Tb) (N : List Str) : Scope → It → Expr → Expr → Bool
  | sc, .seq a, tg, e => chkE T N sc a e
  | sc, .rng a, tg, e => (match e with
    | .Call (.Name x _) [ea] [] _ => decide (x = "range") && (glB sc x && (decide (x ∈ T.bn) && (!isStar ea && chkE T N sc a ea)))
    | _ => false)
  | sc, .rng2 a b, tg, e => (match e with
    | .Call (.Name x _) [ea, eb] [] _ => decide (x = "range") && (glB sc x && (decide (x ∈ T.bn) && (!isStar ea && (!isStar eb && (chkE T N sc a ea && chkE T N sc b eb)))))
    | _ => false)
  | sc, .items a, tg, e => (match e with
    | .Call (.Attribute ea m apos) [] [] pos => decide (m = "items") && ((match tg with | .Tuple _ _ _ => true | _ => false) && (noCall ea && ((apos.endLine == pos.line) && chkE T N sc a ea)))
    | _ => false)
end

structure Ok4 (p : Pg) (X : Cx) (G : Fns) (e : Expr) (a : Ex) : Prop where
  fe : ∀ ρ S, FE p X ρ S e (evE G a ρ S)
  ft : ∀ ρ S, FT p X ρ S e (evE G a ρ S)
  fh : ∀ ρ S, FH p X ρ S e (hOf a ρ S (evE G a ρ S))
  fn : isFr a = true → ∀ ρ S, FN p X ρ S e (evE G a ρ S)
inductive OkA (p : Pg) (X : Cx) (G : Fns) : List Expr → Ar → Prop
  | nil : OkA p X G [] .nil
  | cons {e es a as} : isStar e = false → Ok4 p X G e a → OkA p X G es as → OkA p X G (e :: es) (.cons a as)
section
variable {p : Pg} {N : List Str} {sc : Scope} {fn : Str → Bool} {k : Nat} {X : Cx} {G : Fns} {T : Tb}
theorem OkA.fa {es : List Expr} {as : Ar} (h : OkA p X G es as) : ∀ ρ S, FA p X ρ S es (evA G as ρ S) := by
  induction h with
  | nil => exact fun ρ S => fa_nil
  | cons h0 h1 _ ih => exact fun ρ S => fa_cons h0 (h1.fe ρ S) fun S => ih ρ S
theorem OkA.fhs {es : List Expr} {as : Ar} (h : OkA p X G es as) : ∀ ρ S, FHs p X ρ S es (evH G as ρ S) := by
  induction h with
  | nil => exact fun ρ S => fhs_nil
  | cons h0 h1 _ ih => exact fun ρ S => fhs_cons h0 (h1.fh ρ S) fun S => ih ρ S
theorem OkA.all {es : List Expr} {as : Ar} (h : OkA p X G es as) : (es.all fun e => !isStar e) = true := by
  induction h with
  | nil => rfl
  | cons h0 _ _ ih => rw [List.all_cons, h0, ih]; rfl
theorem vis_ok {x : Str} (h : visB sc x = true) : Vis sc x := by
  unfold visB at h
  split at h
  · exact .inl (by assumption)
  · exact .inr (.inl (by assumption))
  · exact .inr (.inr (by assumption))
  · cases h
theorem st_ok {x : Str} (h : stB sc fn x = true) : Loc sc x ∧ (fn x = true ∨ sc.names.lookup x = some .local) := by
  unfold stB at h
  split at h
  · rename_i q; exact ⟨.inl q, .inr q⟩
  · rename_i q; exact ⟨.inr q, .inl h⟩
  · cases h
theorem dbg_ok {x : Str} (h : dbg x = true) : (x == ("__debug__" : Str)) = false ∧ (x == ("__classdict__" : Str)) = false := by
  unfold dbg at h
  simpa only [Bool.and_eq_true, Bool.not_eq_true'] using h
theorem gl_ok {x : Str} (h : glB sc x = true) : sc.names.lookup x = some .globalImplicit ∧ (x == ("__debug__" : Str)) = false := by
  unfold glB at h
  rw [Bool.and_eq_true, decide_eq_true_eq] at h
  exact ⟨h.1, (dbg_ok h.2).1⟩
theorem nms_ok : ∀ {is : List Nat} {es : List Expr}, nmsB N sc fn is es = true → NmOk N sc fn is es
  | [], [], _ => trivial
  | i :: is, e :: es, h => by
    simp only [nmsB, Bool.and_eq_true] at h
    obtain ⟨h1, h2⟩ := h
    split at h1
    · rw [Bool.and_eq_true, decide_eq_true_eq] at h1
      obtain ⟨l, f⟩ := st_ok h1.2
      exact ⟨h1.1, l, f, nms_ok h2⟩
    · cases h1
  | [], _ :: _, h => by cases h
  | _ :: _, [], h => by cases h
theorem tg_ok {t : Tg} {tg : Expr} (h : tgB N sc fn t tg = true) (g : Good p N sc fn k X) : FG p X t tg := by
  unfold tgB at h
  split at h
  · split at h
    · rw [Bool.and_eq_true, decide_eq_true_eq] at h
      obtain ⟨l, f⟩ := st_ok h.2
      exact fg_nm g h.1 l f
    · cases h
  · split at h
    · exact fg_nms g (nms_ok h)
    · cases h
theorem tg_nm {t : Tg} {tg : Expr} (h : tgB N sc fn t tg = true) : nmTg tg = true := by
  unfold tgB at h
  split at h
  · split at h
    · rfl
    · cases h
  · split at h
    · rfl
    · cases h
theorem is_ok {o : CmpOp} {n : Bool} (h : isB o n = true) : (o = .Is ∨ o = .IsNot) ∧ n = decide (o = .IsNot) := by
  unfold isB at h
  split at h
  · cases n <;> first | exact ⟨.inl rfl, rfl⟩ | cases h
  · cases n <;> first | exact ⟨.inr rfl, rfl⟩ | cases h
  · cases h
theorem ft_ife {ec ea eb : Expr} {c a b : Ex} {ρ : Env'} {S : Store} {pos : Pos} (hc : FT p X ρ S ec (evE G c ρ S)) (ha : ∀ S, FT p X ρ S ea (evE G a ρ S)) (hb : ∀ S, FT p X ρ S eb (evE G b ρ S)) : FT p X ρ S (.IfExp ec ea eb pos) (evE G (.ife c a b) ρ S) := by
  intro Pr F ι α σ H R d S' e Q q pins s I
  rw [evE] at e
  obtain ⟨⟨u, S1⟩, e1, e⟩ := Option.bind_eq_some_iff.mp e
  obtain ⟨i, e2, e3⟩ := Option.bind_eq_some_iff.mp e
  cases blOf_eq e2
  have hx : PySem.isTrue (.IfExp ec ea eb pos) X.env (eval (.IfExp ec ea eb pos) X.env) = (do if ← PySem.isTrue ec X.env (eval ec X.env) then PySem.isTrue ea X.env (eval ea X.env) else PySem.isTrue eb X.env (eval eb X.env)) := by simp only [PySem.isTrue]
  rw [hx]
  have w := hc Pr F ι α σ H R _ _ e1 (fun b' H' => b' = i ∧ ∃ F' ι', Rel p Pr ρ S1 F' ι' α σ H' ∧ LeH F F' ∧ LeA ι ι') fun F' ι' H' R' l m => ⟨rfl, F', ι', R', l, m⟩
  refine wpAny_bind (thn (w pins s I) fun d' s1 hd => ?_)
  obtain ⟨H1, I1, rfl, F1, ι1, R1, l1, m1⟩ := hd
  by_cases hi : d' = true
  · rw [if_pos hi] at e3 ⊢
    exact ha S1 Pr F1 ι1 α σ H1 R1 _ _ e3 _ (fun F' ι' H' R' l m => q F' ι' H' R' (l1.trans l) (m1.trans m)) pins s1 I1
  · rw [if_neg hi] at e3 ⊢
    exact hb S1 Pr F1 ι1 α σ H1 R1 _ _ e3 _ (fun F' ι' H' R' l m => q F' ι' H' R' (l1.trans l) (m1.trans m)) pins s1 I1
/-- what is no name -/
theorem Ok4.of {e : Expr} {a : Ex} (hn : ∀ i, a ≠ .var i) (he : ∀ whole, isTrue e X.env whole = (do let v ← whole; standAt e.pos; holding [v] (truthy v))) (h : ∀ ρ S, FE p X ρ S e (evE G a ρ S)) (hf : isFr a = true → ∀ ρ S, FN p X ρ S e (evE G a ρ S)) : Ok4 p X G e a :=
  ⟨h, fun ρ S => ft_val (h ρ S) he, fun ρ S => fh_of hn (h ρ S), hf⟩
theorem Ok4.ofT {e : Expr} {a : Ex} (hn : ∀ i, a ≠ .var i) (h : ∀ ρ S, FE p X ρ S e (evE G a ρ S)) (ht : ∀ ρ S, FT p X ρ S e (evE G a ρ S)) (hf : isFr a = false) : Ok4 p X G e a :=
  ⟨h, ht, fun ρ S => fh_of hn (h ρ S), fun z => by rw [hf] at z; cases z⟩
theorem fn_blt {e : Expr} {ρ : Env'} {S : Store} {pos ps : Pos} {es : List Expr} {as : Ar} {bi : Bi} {x : Str} (g : Good p N sc fn k X) (hx : x = bi.name) (hg : sc.names.lookup x = some .globalImplicit) (hm : p.mg x = none) (hb : bi = .list ∨ bi = .sorted) (h0 : isStar e = false) (hpl : (es.all fun e => !isStar e) = true) (ha : FHs p X ρ S (e :: es) (evH G as ρ S)) :
    FN p X ρ S (.Call (.Name x ps) (e :: es) [] pos) (evE G (.blt bi as) ρ S) := by
  intro Pr F ι α σ H R d S' e' Q q
  rw [evE] at e'
  obtain ⟨⟨hs, S1⟩, e1, e'⟩ := Option.bind_eq_some_iff.mp e'
  obtain ⟨us, e2, e'⟩ := Option.bind_eq_some_iff.mp e'
  obtain ⟨d', e5, e6⟩ := Option.map_eq_some_iff.mp e'
  cases e6
  have hG : Gl X x := by show X.env.scope.names.lookup x = _; rw [g.sc]; exact hg
  have hM : X.mg x = none := by rw [← hm, ← g.pg]; rfl
  have rd : tCB (wC X bi.fn) (wA X (e :: es)) σ H Q := by
    refine ha Pr F ι α σ H R _ _ e1 _ fun vs F' ι' H' R' l m rs => ?_
    refine blt_new bi hb g.pg g.calm g.units R'.wd.sub (cws_of R' rs e2) e5 fun c ws ds hd hc rr => ?_
    subst hd
    obtain ⟨R2, f2⟩ := R'.alloc (d := .lst ds) (o := .lst ws) hc fun G g => ⟨ws, g, rr⟩
    exact q c F' ι' _ R2 l m f2
  subst hx
  rcases hb with rfl | rfl
  · exact wE_of (pe_callTy wC_ok hG hM (by decide +kernel) paW (by decide) (by decide) (star_cons h0) (star_all hpl).1) rd
  · exact wE_of (pe_callB wC_ok hG hM (by decide +kernel) paW (by decide) (by decide) (star_cons h0) (star_all hpl).1) rd
theorem part_ok {o : Option Expr} {as : Ar} (h : OkA p X G o.toList as) : ∀ ρ, FO p X ρ o (evA G as ρ) := by
  cases o with
  | none => cases h with | nil => exact fun ρ => fo_none
  | some e => cases h with | cons h0 h1 h2 => cases h2 with | nil => exact fun ρ => fo_some fun S => h1.fe ρ S
theorem own_ix {t : Tg} : (ownL N t).map (·.2) = t.ix := by
  unfold ownL
  rw [List.map_map]
  exact List.map_id _
theorem sl_plain {e : Expr} (h : notSl e = true) : PlainIx e := plain_ix (by cases e <;> first | rfl | cases h)
mutual
theorem sE (tb : TbOk p T) (gf : GoodF p k G) : ∀ (a : Ex) {e : Expr} {sc : Scope} {fn : Str → Bool} {X : Cx}, chkE T N sc a e = true → Good p N sc fn (k + 1) X → Ok4 p X G e a
  | .var i, e, sc, fn, X, h, g => by
    unfold chkE at h; split at h
    · simp only [Bool.and_eq_true, decide_eq_true_eq] at h
      obtain ⟨h1, h2, h3⟩ := h
      obtain ⟨d1, d2⟩ := dbg_ok h3
      exact ⟨fun ρ S => fe_var g h1 (vis_ok h2) d1 d2, fun ρ S => ft_val (fe_var g h1 (vis_ok h2) d1 d2) fun _ => rfl, fun ρ S => fh_var g h1 (vis_ok h2) d1 d2, fun z => by cases z⟩
    · cases h
  | .cst c, e, sc, fn, X, h, g => by
    unfold chkE at h; split at h
    · exact .of (fun _ z => by cases z) (fun _ => rfl) (fun ρ S => fe_cst h) (fun z => by cases z)
    · cases h
  | .glb x gc, e, sc, fn, X, h, g => by
    unfold chkE at h; split at h
    · simp only [Bool.and_eq_true, decide_eq_true_eq] at h
      obtain ⟨rfl, h2, h3⟩ := h
      obtain ⟨l, d1⟩ := gl_ok h2
      exact .of (fun _ z => by cases z) (fun _ => rfl) (fun ρ S => fe_glb g l (tb.con _ _ h3) d1) (fun z => by cases z)
    · cases h
  | .bin o a b, e, sc, fn, X, h, g => by
    unfold chkE at h; split at h
    · simp only [Bool.and_eq_true, decide_eq_true_eq] at h
      obtain ⟨rfl, h2, h3⟩ := h
      have ha := sE tb gf a h2 g
      have hb := sE tb gf b h3 g
      exact .of (fun _ z => by cases z) (fun _ => rfl) (fun ρ S => fe_bin g (ha.fh ρ S) fun S => hb.fh ρ S) (fun z => by cases z)
    · cases h
  | .neg a, e, sc, fn, X, h, g => by
    unfold chkE at h; split at h
    · have ha := sE tb gf a h g
      exact .of (fun _ z => by cases z) (fun _ => rfl) (fun ρ S => fe_neg (ha.fe ρ S)) (fun z => by cases z)
    · cases h
  | .not a, e, sc, fn, X, h, g => by
    unfold chkE at h; split at h
    · have ha := sE tb gf a h g
      exact .ofT (fun _ z => by cases z) (fun ρ S => fe_not (ha.fe ρ S)) (fun ρ S => ft_not (ha.ft ρ S)) rfl
    · cases h
  | .and a b, e, sc, fn, X, h, g => by
    unfold chkE at h; split at h
    · rw [Bool.and_eq_true] at h
      obtain ⟨h1, h2⟩ := h
      have ha := sE tb gf a h1 g
      split at h2
      · have hb := sE tb gf b h2 g
        exact .ofT (fun _ z => by cases z) (fun ρ S => fe_and (ha.fe ρ S) fun S => fe_one (hb.fe ρ S)) (fun ρ S => ft_and (ha.ft ρ S) fun S => ft_one (hb.ft ρ S)) rfl
      · have hb := sE tb gf b h2 g
        exact .ofT (fun _ z => by cases z) (fun ρ S => fe_and (ha.fe ρ S) fun S => hb.fe ρ S) (fun ρ S => ft_and (ha.ft ρ S) fun S => hb.ft ρ S) rfl
    · cases h
  | .or a b, e, sc, fn, X, h, g => by
    unfold chkE at h; split at h
    · rw [Bool.and_eq_true] at h
      obtain ⟨h1, h2⟩ := h
      have ha := sE tb gf a h1 g
      split at h2
      · have hb := sE tb gf b h2 g
        exact .ofT (fun _ z => by cases z) (fun ρ S => fe_or (ha.fe ρ S) fun S => fe_one (hb.fe ρ S)) (fun ρ S => ft_or (ha.ft ρ S) fun S => ft_one (hb.ft ρ S)) rfl
      · have hb := sE tb gf b h2 g
        exact .ofT (fun _ z => by cases z) (fun ρ S => fe_or (ha.fe ρ S) fun S => hb.fe ρ S) (fun ρ S => ft_or (ha.ft ρ S) fun S => hb.ft ρ S) rfl
    · cases h
  | .ife c a b, e, sc, fn, X, h, g => by
    unfold chkE at h; split at h
    · simp only [Bool.and_eq_true] at h
      obtain ⟨h1, h2, h3⟩ := h
      have hc := sE tb gf c h1 g
      have ha := sE tb gf a h2 g
      have hb := sE tb gf b h3 g
      exact .ofT (fun _ z => by cases z) (fun ρ S => fe_ife (hc.ft ρ S) (fun S => ha.fe ρ S) fun S => hb.fe ρ S) (fun ρ S => ft_ife (hc.ft ρ S) (fun S => ha.ft ρ S) fun S => hb.ft ρ S) rfl
    · cases h
  | .cmp o a b, e, sc, fn, X, h, g => by
    unfold chkE at h; split at h
    · simp only [Bool.and_eq_true, decide_eq_true_eq] at h
      obtain ⟨rfl, h2, h3, h4⟩ := h
      have ha := sE tb gf a h3 g
      have hb := sE tb gf b h4 g
      exact .ofT (fun _ z => by cases z) (fun ρ S => fe_cmp g (ha.fh ρ S) (fun S => hb.fh ρ S) (mark_ok h2)) (fun ρ S => ft_cmp g (ha.fh ρ S) (fun S => hb.fh ρ S) (mark_ok h2)) rfl
    · cases h
  | .chn o o' a b c, e, sc, fn, X, h, g => by
    unfold chkE at h; split at h
    · simp only [Bool.and_eq_true, decide_eq_true_eq] at h
      obtain ⟨rfl, rfl, h2, h3, h4, h5⟩ := h
      have ha := sE tb gf a h3 g
      have hb := sE tb gf b h4 g
      have hc := sE tb gf c h5 g
      exact .ofT (fun _ z => by cases z) (fun ρ S => fe_chn g (ha.fh ρ S) (fun S => hb.fh ρ S) (fun S => hc.fh ρ S) (mark_ok h2)) (fun ρ S => ft_chn g (ha.fh ρ S) (fun S => hb.fh ρ S) (fun S => hc.fh ρ S) (mark_ok h2)) rfl
    · cases h
  | .iso n a b, e, sc, fn, X, h, g => by
    unfold chkE at h; split at h
    · simp only [Bool.and_eq_true] at h
      obtain ⟨h1, h2, h3, h4⟩ := h
      obtain ⟨i1, i2⟩ := is_ok h1
      have ha := sE tb gf a h3 g
      have hb := sE tb gf b h4 g
      exact .ofT (fun _ z => by cases z) (fun ρ S => fe_iso i1 i2 (ha.fe ρ S) (fun S => hb.fe ρ S) (mark_ok h2)) (fun ρ S => ft_iso i1 i2 (ha.fe ρ S) (fun S => hb.fe ρ S) (mark_ok h2)) rfl
    · cases h
  | .tup as, e, sc, fn, X, h, g => by
    unfold chkE at h; split at h
    · have ha := sA tb gf as h g
      exact .of (fun _ z => by cases z) (fun _ => rfl) (fun ρ S => fe_tup (ha.fa ρ S)) (fun z => by cases z)
    · cases h
  | .list as, e, sc, fn, X, h, g => by
    unfold chkE at h; split at h
    · have ha := sA tb gf as h g
      exact .of (fun _ z => by cases z) (fun _ => rfl) (fun ρ S => fe_list (ha.fa ρ S)) (fun _ ρ S => fn_list (ha.fa ρ S))
    · cases h
  | .dnew t, e, sc, fn, X, h, g => by
    unfold chkE at h; split at h
    · exact .of (fun _ z => by cases z) (fun _ => rfl) (fun ρ S => fe_of_fn fn_dnew) (fun _ ρ S => fn_dnew)
    · cases h
  | .disp ks vs, e, sc, fn, X, h, g => by
    rw [chkE] at h; cases h
  | .idx a b, e, sc, fn, X, h, g => by
    unfold chkE at h; split at h
    · simp only [Bool.and_eq_true] at h
      obtain ⟨h1, h2, h3⟩ := h
      have ha := sE tb gf a h2 g
      have hb := sE tb gf b h3 g
      exact .of (fun _ z => by cases z) (fun _ => rfl) (fun ρ S => fe_idx g (sl_plain h1) (ha.fh ρ S) fun S => hb.fe ρ S) (fun z => by cases z)
    · cases h
  | .sl a lo hi, e, sc, fn, X, h, g => by
    unfold chkE at h; split at h
    · simp only [Bool.and_eq_true] at h
      obtain ⟨h1, h2, h3⟩ := h
      have ha := sE tb gf a h1 g
      have hl := sA tb gf lo h2 g
      have hh := sA tb gf hi h3 g
      exact .of (fun _ z => by cases z) (fun _ => rfl) (fun ρ S => fe_sl g (ha.fh ρ S) (part_ok hl ρ) (part_ok hh ρ)) (fun z => by cases z)
    · cases h
  | .rev a, e, sc, fn, X, h, g => by
    unfold chkE at h; split at h
    · have ha := sE tb gf a h g
      exact .of (fun _ z => by cases z) (fun _ => rfl) (fun ρ S => fe_rev g (ha.fh ρ S)) (fun z => by cases z)
    · cases h
  | .fld a f, e, sc, fn, X, h, g => by
    unfold chkE at h; split at h
    · simp only [Bool.and_eq_true, decide_eq_true_eq] at h
      obtain ⟨rfl, h2, h3⟩ := h
      have ha := sE tb gf a h3 g
      exact .of (fun _ z => by cases z) (fun _ => rfl) (fun ρ S => fe_fld g gf.toFldOk (attr_ok h2) (ha.fe ρ S)) (fun z => by cases z)
    · cases h
  | .call f as, e, sc, fn, X, h, g => by
    unfold chkE at h; split at h
    · simp only [Bool.and_eq_true, decide_eq_true_eq] at h
      obtain ⟨rfl, h2, h3⟩ := h
      obtain ⟨l, d1⟩ := gl_ok h2
      have ha := sA tb gf as h3 g
      refine .of (fun _ z => by cases z) (fun _ => rfl) (fun ρ S => ?_) (fun z => by cases z)
      cases ha with
      | nil => exact fe_call0 g gf l d1
      | cons h0 h1 hr => exact fe_call g gf l d1 h0 hr.all ((OkA.cons h0 h1 hr).fa ρ S)
    · cases h
  | .mk f as, e, sc, fn, X, h, g => by
    unfold chkE at h; split at h
    · simp only [Bool.and_eq_true, decide_eq_true_eq] at h
      obtain ⟨rfl, h2, h3⟩ := h
      obtain ⟨l, d1⟩ := gl_ok h2
      have ha := sA tb gf as h3 g
      refine .of (fun _ z => by cases z) (fun _ => rfl) (fun ρ S => ?_) (fun z => by cases z)
      cases ha with
      | nil => exact fe_mk0 g gf l d1
      | cons h0 h1 hr => exact fe_mk g gf l d1 h0 hr.all ((OkA.cons h0 h1 hr).fa ρ S)
    · cases h
  | .meth o m as, e, sc, fn, X, h, g => by
    unfold chkE at h; split at h
    · simp only [Bool.and_eq_true, decide_eq_true_eq] at h
      obtain ⟨rfl, h2, h3, h4, h5, h6⟩ := h
      have ho := sE tb gf o h5 g
      have ha := sA tb gf as h6 g
      have hm := fun env => meth_ok (m := m) (env := env) h2 ha.all h4 h3
      refine .of (fun _ z => by cases z) (fun _ => rfl) (fun ρ S => ?_) (fun z => by cases z)
      cases ha with
      | nil => exact fe_meth0 g gf (hm _) (ho.fe ρ S)
      | cons h0 h1 hr => exact fe_meth g gf h0 hr.all (hm _) (ho.fe ρ S) fun S => (OkA.cons h0 h1 hr).fa ρ S
    · cases h
  | .blt b as, e, sc, fn, X, h, g => by
    unfold chkE at h; split at h
    · simp only [Bool.and_eq_true, decide_eq_true_eq] at h
      obtain ⟨h1, h2, h3, h4, h5⟩ := h
      obtain ⟨l, d1⟩ := gl_ok h2
      have ha := sA tb gf as h5 g
      cases ha with
      | cons h0 h6 hr =>
      refine .of (fun _ z => by cases z) (fun _ => rfl) (fun ρ S => fe_blt g h1 l (tb.bn _ h3) h4 h0 hr.all ((OkA.cons h0 h6 hr).fhs ρ S)) (fun z ρ S => ?_)
      exact fn_blt g h1 l (tb.bn _ h3) (by cases b <;> first | exact .inl rfl | exact .inr rfl | cases z) h0 hr.all ((OkA.cons h0 h6 hr).fhs ρ S)
    · cases h
  | .get o kx, e, sc, fn, X, h, g => by
    unfold chkE at h; split at h
    · simp only [Bool.and_eq_true, decide_eq_true_eq, Bool.not_eq_true'] at h
      obtain ⟨rfl, h2, h3, h4, h5, h6⟩ := h
      have ho := sE tb gf o h5 g
      have hk := sE tb gf kx h6 g
      exact .of (fun _ z => by cases z) (fun _ => rfl) (fun ρ S => fe_get g (m1_ok h2 h4 h3) (ho.fh ρ S) fun S => hk.fe ρ S) (fun z => by cases z)
    · cases h
  | .getd o kx x, e, sc, fn, X, h, g => by
    unfold chkE at h; split at h
    · simp only [Bool.and_eq_true, decide_eq_true_eq, Bool.not_eq_true'] at h
      obtain ⟨rfl, h2, h3, h4, h4', h5, h6, h7⟩ := h
      have ho := sE tb gf o h5 g
      have hk := sE tb gf kx h6 g
      have hx := sE tb gf x h7 g
      exact .of (fun _ z => by cases z) (fun _ => rfl) (fun ρ S => fe_getd g (m2_ok h2 h4 h4' h3) (ho.fh ρ S) (fun S => hk.fe ρ S) fun S => hx.fe ρ S) (fun z => by cases z)
    · cases h
  | .comp t it c a, e, sc, fn, X, h, g => by
    unfold chkE at h; split at h
    · simp only [Bool.and_eq_true, decide_eq_true_eq] at h
      obtain ⟨rfl, h1, h2, h3, h4, h5, h6, h7⟩ := h
      have hi := sI tb gf it h5 g
      rename_i elt tg iter ifs scope pos
      have hc : ∀ X', Good p N (relS scope sc) (fnB scope) (k + 1) X' → OkA p X' G ifs c := fun X' g' => sA tb gf c h6 g'
      have he : ∀ X', Good p N (relS scope sc) (fnB scope) (k + 1) X' → Ok4 p X' G elt a := fun X' g' => sE tb gf a h7 g'
      have fc : FC p G (Good p N (relS scope sc) (fnB scope) (k + 1)) ifs c := by
        cases c with
        | nil =>
          cases ifs with
          | nil => exact .nil
          | cons _ _ => cases h6
        | cons c1 cr =>
          cases ifs with
          | nil => cases h6
          | cons f fs =>
            cases fs with
            | cons _ _ => simp at h4
            | nil =>
              cases cr with
              | cons _ _ =>
                have h6 := (Bool.and_eq_true_iff.mp (Bool.and_eq_true_iff.mp h6).2).2
                cases h6
              | nil =>
                refine .one fun X' g' ρ S => ?_
                have q := hc X' g'
                cases q with
                | cons _ q _ => exact q.ft ρ S
      have fn_ := fun ρ S => fn_comp (pos := pos) g (hi ρ S) (blkOk_by h1) own_ix (fun X' g' => tg_ok h2 g') fc (fun X' g' ρ S => (he X' g').fe ρ S) (fold_ok h3)
      exact .of (fun _ z => by cases z) (fun _ => rfl) (fun ρ S => fe_of_fn (fn_ ρ S)) (fun _ ρ S => fn_ ρ S)
    · cases h
  | .dcomp t it c a b, e, sc, fn, X, h, g => by
    unfold chkE at h; split at h
    · simp only [Bool.and_eq_true, decide_eq_true_eq] at h
      obtain ⟨rfl, h1, h2, h3, h4, h5, h6, h7, h8⟩ := h
      have hi := sI tb gf it h5 g
      rename_i kx vx tg iter ifs scope pos
      have hc : ∀ X', Good p N (relS scope sc) (fnB scope) (k + 1) X' → OkA p X' G ifs c := fun X' g' => sA tb gf c h6 g'
      have he : ∀ X', Good p N (relS scope sc) (fnB scope) (k + 1) X' → Ok4 p X' G kx a := fun X' g' => sE tb gf a h7 g'
      have hv : ∀ X', Good p N (relS scope sc) (fnB scope) (k + 1) X' → Ok4 p X' G vx b := fun X' g' => sE tb gf b h8 g'
      have fc : FC p G (Good p N (relS scope sc) (fnB scope) (k + 1)) ifs c := by
        cases c with
        | nil =>
          cases ifs with
          | nil => exact .nil
          | cons _ _ => cases h6
        | cons c1 cr =>
          cases ifs with
          | nil => cases h6
          | cons f fs =>
            cases fs with
            | cons _ _ => simp at h4
            | nil =>
              cases cr with
              | cons _ _ =>
                have h6 := (Bool.and_eq_true_iff.mp (Bool.and_eq_true_iff.mp h6).2).2
                cases h6
              | nil =>
                refine .one fun X' g' ρ S => ?_
                have q := hc X' g'
                cases q with
                | cons _ q _ => exact q.ft ρ S
      have fn_ := fun ρ S => fn_dcomp (pos := pos) g (hi ρ S) (blkOk_by h1) own_ix (fun X' g' => tg_ok h2 g') fc (fun X' g' ρ S => (he X' g').fe ρ S) (fun X' g' ρ S => (hv X' g').fe ρ S) (fold_ok h3)
      exact .of (fun _ z => by cases z) (fun _ => rfl) (fun ρ S => fe_of_fn (fn_ ρ S)) (fun _ ρ S => fn_ ρ S)
    · cases h
  | .lrng a b, e, sc, fn, X, h, g => by
    unfold chkE at h; split at h
    · simp only [Bool.and_eq_true, decide_eq_true_eq, Bool.not_eq_true'] at h
      obtain ⟨h1, h2, h3, h4, h5, h6, h7, h8, h9, h10⟩ := h
      have ha := sE tb gf a h9 g
      have hb := sE tb gf b h10 g
      exact .of (fun _ z => by cases z) (fun _ => rfl) (fun ρ S => fe_of_fn (fn_lrng (G := G) (ρ := ρ) (S := S) g h1 h2 (gl_ok h3).1 (tb.bn _ h5) (gl_ok h4).1 (tb.bn _ h6) h7 h8 (ha.fe ρ S) fun S => hb.fe ρ S)) (fun _ ρ S => fn_lrng (G := G) (ρ := ρ) (S := S) g h1 h2 (gl_ok h3).1 (tb.bn _ h5) (gl_ok h4).1 (tb.bn _ h6) h7 h8 (ha.fe ρ S) fun S => hb.fe ρ S)
    · cases h
  | .dcst kvs, e, sc, fn, X, h, g => by
    unfold chkE at h; split at h
    · exact .of (fun _ z => by cases z) (fun _ => rfl) (fun ρ S => fe_of_fn (fn_dcst h)) (fun _ ρ S => fn_dcst h)
    · cases h
  | .mref a, e, sc, fn, X, h, g => by
    rw [chkE, Bool.and_eq_true] at h
    have ha := sE tb gf a h.2 g
    refine ⟨fun ρ S => fe_mref (ha.fn h.1 ρ S), fun ρ S => ?_, fun ρ S => fh_of (fun _ z => by cases z) (fe_mref (ha.fn h.1 ρ S)), fun z => by cases z⟩
    intro Pr F ι α σ H R b S' er
    exfalso
    rw [evE] at er
    obtain ⟨x, e1, e2⟩ := Option.bind_eq_some_iff.mp er
    unfold newRef at e2
    split at e2 <;> cases e2
theorem sA (tb : TbOk p T) (gf : GoodF p k G) : ∀ (as : Ar) {es : List Expr} {sc : Scope} {fn : Str → Bool} {X : Cx}, chkA T N sc as es = true → Good p N sc fn (k + 1) X → OkA p X G es as
  | .nil, es, sc, fn, X, h, g => by
    unfold chkA at h; split at h
    · exact .nil
    · cases h
  | .cons a as, es, sc, fn, X, h, g => by
    unfold chkA at h; split at h
    · simp only [Bool.and_eq_true, Bool.not_eq_true'] at h
      exact .cons h.1 (sE tb gf a h.2.1 g) (sA tb gf as h.2.2 g)
    · cases h
theorem sI (tb : TbOk p T) (gf : GoodF p k G) : ∀ (it : It) {tg e : Expr} {sc : Scope} {fn : Str → Bool} {X : Cx}, chkI T N sc it tg e = true → Good p N sc fn (k + 1) X → ∀ ρ S, FI p X ρ S tg e (evI G it ρ S)
  | .seq a, tg, e, sc, fn, X, h, g => by
    rw [chkI] at h
    have ha := sE tb gf a h g
    exact fun ρ S => fi_seq g (ha.fh ρ S)
  | .rng a, tg, e, sc, fn, X, h, g => by
    unfold chkI at h; split at h
    · simp only [Bool.and_eq_true, decide_eq_true_eq, Bool.not_eq_true'] at h
      obtain ⟨rfl, h2, h3, h4, h5⟩ := h
      have ha := sE tb gf a h5 g
      exact fun ρ S => fi_rng g (gl_ok h2).1 (tb.bn _ h3) h4 fun S => ha.fe ρ S
    · cases h
  | .rng2 a b, tg, e, sc, fn, X, h, g => by
    unfold chkI at h; split at h
    · simp only [Bool.and_eq_true, decide_eq_true_eq, Bool.not_eq_true'] at h
      obtain ⟨rfl, h2, h3, h4, h5, h6, h7⟩ := h
      have ha := sE tb gf a h6 g
      have hb := sE tb gf b h7 g
      exact fun ρ S => fi_rng2 g (gl_ok h2).1 (tb.bn _ h3) h4 h5 (fun S => ha.fe ρ S) fun S => hb.fe ρ S
    · cases h
  | .items a, tg, e, sc, fn, X, h, g => by
    unfold chkI at h; split at h
    · simp only [Bool.and_eq_true, decide_eq_true_eq] at h
      obtain ⟨rfl, h2, h3, h4, h5⟩ := h
      have ha := sE tb gf a h5 g
      split at h2
      · exact fun ρ S => fi_items (attr_ok h3) h4 (ha.fh ρ S)
      · cases h2
    · cases h
end
end
end Z

set_option Elab.async false
set_option linter.all false
set_option maxRecDepth 100000
set_option maxHeartbeats 4000000
namespace Z
open PySem PySem.Spec PyProof.Rows L2

/-! # statements and their short form -/
def fnT : Str → Bool := fun _ => true
def isCo : Ex → Bool
  | .comp _ _ _ _ => true
  | _ => false
def isCoM : Ex → Bool
  | .comp _ _ _ _ => true
  | .mref (.comp _ _ _ _) => true
  | _ => false
def compTo (sc : Scope) (tg e : Expr) : Bool := match tg, e with
  | .Name x ps, .ListComp _ _ scope cp => swapC sc x ps cp scope
  | _, _ => false
def par2 (N : List Str) (sc : Scope) (is : List Nat) (ts vs : List Expr) : Bool := match is, ts with
  | [i, j], [.Name x px, .Name y py] => decide (N[i]? = some x) && (decide (N[j]? = some y) && (decide (i ≠ j) && swap2 sc x y px py vs))
  | [i, j, l], [.Name x px, .Name y py, .Name z pz] => decide (N[i]? = some x) && (decide (N[j]? = some y) && (decide (N[l]? = some z) && (decide (i ≠ j ∧ i ≠ l ∧ j ≠ l) && swap3 sc x y z px py pz vs)))
  | _, _ => false
def chkP (T : Tb) (N : List Str) (sc : Scope) (o : Ex) (as : Ar) (e : Expr) : Bool := match e with
  | .Call (.Attribute eo m apos) es [] cp => decide (m = "pop") && (noCall eo && ((apos.endLine == cp.line) && (decide (es.length ≤ 2) && (chkE T N sc o eo && chkA T N sc as es))))
  | _ => false
mutual
def chkS (T : Tb) (N : List Str) (sc : Scope) : Sm → Stmt → Bool
  | .asg t a, s => (match s with
    | .Assign [tg] e _ => noSwap sc tg e && (tgB N sc fnT t tg && (chkE T N sc a e && ((!isComp e || offLoc sc tg) || (isCoM a && compTo sc tg e))))
    | _ => false)
  | .own i a, s => (match s with
    | .Assign [.Name x ps] e _ => decide (N[i]? = some x) && (stB sc fnT x && (isFr a && (chkE T N sc a e && ((!isComp e || offLoc sc (.Name x ps)) || (isCo a && compTo sc (.Name x ps) e)))))
    | _ => false)
  | .par is as, s => (match s with
    | .Assign [.Tuple ts _ _] (.Tuple vs _ _) _ => par2 N sc is ts vs && chkA T N sc as vs
    | _ => false)
  | .setf o f a, s => (match s with
    | .Assign [.Attribute eo f' _] e _ => decide (f = f') && (chkE T N sc o eo && chkE T N sc a e)
    | _ => false)
  | .seti o k a, s => (match s with
    | .Assign [.Subscript eo ek _] e _ => notSl ek && (chkE T N sc o eo && (chkE T N sc k ek && chkE T N sc a e))
    | _ => false)
  | .app o a, s => (match s with
    | .Expr (.Call (.Attribute eo m apos) [e] [] cp) _ => decide (m = "append") && (noCall eo && ((apos.endLine == cp.line) && (!isStar e && (chkE T N sc o eo && chkE T N sc a e))))
    | _ => false)
  | .pop none o as, s => (match s with
    | .Expr e _ => chkP T N sc o as e
    | _ => false)
  | .pop (some t) o as, s => (match s with
    | .Assign [tg] e _ => tgB N sc fnT t tg && (noSwap sc tg e && chkP T N sc o as e)
    | _ => false)
  | .expr a, s => (match s with
    | .Expr e _ => !isComp e && chkE T N sc a e
    | _ => false)
  | .aug i o a, s => (match s with
    | .AugAssign (.Name x _) o' e _ => decide (N[i]? = some x) && (stB sc fnT x && (decide (o = o') && chkE T N sc a e))
    | _ => false)
  | .ife c a b, s => (match s with
    | .If ec sa sb _ => chkE T N sc c ec && (chkSs T N sc a sa && chkSs T N sc b sb)
    | _ => false)
  | .for_ t it b, s => (match s with
    | .For tg iter body [] _ => noSet iter && (tgB N sc fnT t tg && (chkI T N sc it tg iter && chkSs T N sc b body))
    | _ => false)
  | .while_ c b, s => (match s with
    | .While ec body [] _ => chkE T N sc c ec && chkSs T N sc b body
    | _ => false)
  | .ret a, s => (match s with
    | .Return (some e) _ => chkE T N sc a e
    | _ => false)
  | .retN, s => (match s with
    | .Return none _ => true
    | _ => false)
  | .brk, s => (match s with
    | .Break _ => true
    | _ => false)
  | .cnt, s => (match s with
    | .Continue _ => true
    | _ => false)
  | .pass, s => (match s with
    | .Pass _ => true
    | .Expr (.Constant (.str _) _ _) _ => true
    | _ => false)
def chkSs (T : Tb) (N : List Str) (sc : Scope) : Sms → List Stmt → Bool
  | .nil, ss => (match ss with
    | [] => true
    | _ => false)
  | .cons s r, ss => (match ss with
    | st :: ss => chkS T N sc s st && chkSs T N sc r ss
    | _ => false)
  | .frz _ r, ss => chkSs T N sc r ss
end
section
variable {p : Pg} {N : List Str} {sc : Scope} {k : Nat} {X : Cx} {G : Fns} {T : Tb}
theorem comp_parts (tb : TbOk p T) (gf : GoodF p k G) {t : Tg} {it : It} {c : Ar} {a : Ex} {e : Expr} {fn : Str → Bool} (h : chkE T N sc (.comp t it c a) e = true) (g : Good p N sc fn (k + 1) X) : ∃ elt tg iter ifs scope pos, e = .ListComp elt [⟨tg, iter, ifs, 0⟩] scope pos ∧ BlkOk N sc scope (ownL N t) ∧
    (∀ ρ S, FI p X ρ S tg iter (evI G it ρ S)) ∧ (∀ X', Good p N (relS scope sc) (fnB scope) (k + 1) X' → FG p X' t tg) ∧ FC p G (Good p N (relS scope sc) (fnB scope) (k + 1)) ifs c ∧
    (∀ X', Good p N (relS scope sc) (fnB scope) (k + 1) X' → ∀ ρ S, FE p X' ρ S elt (evE G a ρ S)) ∧ ∀ x, foldedSetIterable iter X.env x = pure x := by
  unfold chkE at h; split at h
  · simp only [Bool.and_eq_true, decide_eq_true_eq] at h
    obtain ⟨rfl, h1, h2, h3, h4, h5, h6, h7⟩ := h
    have hi := sI tb gf it h5 g
    rename_i elt tg iter ifs scope pos
    have hc : ∀ X', Good p N (relS scope sc) (fnB scope) (k + 1) X' → OkA p X' G ifs c := fun X' g' => sA tb gf c h6 g'
    have he : ∀ X', Good p N (relS scope sc) (fnB scope) (k + 1) X' → Ok4 p X' G elt a := fun X' g' => sE tb gf a h7 g'
    have fc : FC p G (Good p N (relS scope sc) (fnB scope) (k + 1)) ifs c := by
      cases c with
      | nil =>
        cases ifs with
        | nil => exact .nil
        | cons _ _ => cases h6
      | cons c1 cr =>
        cases ifs with
        | nil => cases h6
        | cons f fs =>
          cases fs with
          | cons _ _ => simp at h4
          | nil =>
            cases cr with
            | cons _ _ =>
              have h6 := (Bool.and_eq_true_iff.mp (Bool.and_eq_true_iff.mp h6).2).2
              cases h6
            | nil =>
              refine .one fun X' g' ρ S => ?_
              have q := hc X' g'
              cases q with
              | cons _ q _ => exact q.ft ρ S
    exact ⟨elt, tg, iter, ifs, scope, pos, rfl, blkOk_by h1, hi, fun X' g' => tg_ok h2 g', fc, fun X' g' ρ S => (he X' g').fe ρ S, fold_ok h3⟩
  · cases h
theorem comp_loc {x : Str} {ps cp : Pos} {scope : Scope} (h : swapC sc x ps cp scope = true) : sc.names.lookup x = some .local := by
  unfold swapC at h
  simp only [Bool.and_eq_true, decide_eq_true_eq] at h
  exact h.1
theorem tg_name {i : Nat} {t : Tg} {x : Str} {ps : Pos} {fn : Str → Bool} (h : tgB N sc fn t (.Name x ps) = true) : ∃ i, t = .nm i ∧ N[i]? = some x := by
  cases t with
  | nm i =>
    have h : (decide (N[i]? = some x) && stB sc fn x) = true := h
    rw [Bool.and_eq_true, decide_eq_true_eq] at h
    exact ⟨i, rfl, h.1⟩
  | nms is => cases h
theorem sP (tb : TbOk p T) (gf : GoodF p k G) {o : Ex} {as : Ar} {e : Expr} {fn : Str → Bool} (h : chkP T N sc o as e = true) (g : Good p N sc fn (k + 1) X) : isComp e = false ∧ ∀ ρ S, FP p X ρ S e (evP G o as ρ S) := by
  unfold chkP at h; split at h
  · simp only [Bool.and_eq_true, decide_eq_true_eq] at h
    obtain ⟨rfl, h2, h3, h4, h5, h6⟩ := h
    have ho := sE tb gf o h5 g
    have ha := sA tb gf as h6 g
    refine ⟨rfl, fun ρ S => ?_⟩
    cases ha with
    | nil => exact fp_pop0 g (attr_ok h2) h3 (ho.fh ρ S)
    | cons s1 a1 ha =>
      cases ha with
      | nil => exact fp_pop1 g (m1_ok h2 s1 h3) s1 (ho.fh ρ S) fun S => a1.fe ρ S
      | cons s2 a2 ha =>
        cases ha with
        | nil => exact fp_pop2 g (m2_ok h2 s1 s2 h3) (ho.fh ρ S) (fun S => a1.fe ρ S) fun S => a2.fe ρ S
        | cons _ _ _ => simp at h4
  · cases h
theorem set_tree {eo ek : Expr} {ps : Pos} {env : Env} (h : notSl ek = true) (v : Value) : assign (.Subscript eo ek ps) env v = (do
      let ov ← holding [v] (eval eo env)
      let iv ← holding [v, ov] (eval ek env)
      standAt ps
      holding [v, ov, iv] (setItem ov iv v)
      release [v, ov, iv] []) := by
  cases ek <;> first | rfl | cases h
theorem sPar (hk : sc.kind = .function) {is : List Nat} {ts vs : List Expr} {kt k2 : Nat} {pt pt2 pos : Pos} {as : Ar} (h : par2 N sc is ts vs = true) (g : Good p N sc fnT (k + 1) X) (ha : OkA p X G vs as) : ∀ ρ S, FS p X ρ S (.Assign [.Tuple ts kt pt] (.Tuple vs k2 pt2) pos) (evS G (.par is as) ρ S) := by
  unfold par2 at h; split at h
  · simp only [Bool.and_eq_true, decide_eq_true_eq] at h
    obtain ⟨h1, h2, h3, h4⟩ := h
    have hw := ss_two (kt := kt) (k2 := k2) (pt := pt) (pt2 := pt2) g.sc hk h4
    unfold swap2 at h4
    simp only [Bool.and_eq_true, decide_eq_true_eq] at h4
    obtain ⟨l1, l2, _, _, l5, _⟩ := h4
    match vs, l5, ha with
    | [e1, e2], _, ha => exact fun ρ S => fs_par2 g h1 h2 h3 l1 l2 hw (sws_tg (.inl rfl)) (ha.fa ρ S)
  · simp only [Bool.and_eq_true, decide_eq_true_eq] at h
    obtain ⟨h1, h2, h3, h4, h5⟩ := h
    have hw := ss_three (kt := kt) (k2 := k2) (pt := pt) (pt2 := pt2) g.sc hk h5
    unfold swap3 at h5
    simp only [Bool.and_eq_true, decide_eq_true_eq] at h5
    obtain ⟨l1, l2, l3, _, _, _, l5, _⟩ := h5
    match vs, l5, ha with
    | [e1, e2, e3], _, ha => exact fun ρ S => fs_par3 g h1 h2 h3 h4.1 h4.2.1 h4.2.2 l1 l2 l3 hw (sws_tg (.inl rfl)) (ha.fa ρ S)
  · cases h
mutual
theorem sS (tb : TbOk p T) (gf : GoodF p k G) (hk : sc.kind = .function) : ∀ (s : Sm) {st : Stmt} {X : Cx}, chkS T N sc s st = true → Good p N sc fnT (k + 1) X → ∀ ρ S, FS p X ρ S st (evS G s ρ S)
  | .asg t a, st, X, h, g => by
    unfold chkS at h; split at h
    · simp only [Bool.and_eq_true] at h
      obtain ⟨h1, h2, h3, h4⟩ := h
      rw [Bool.or_eq_true] at h4
      rcases h4 with h4 | h4
      · rw [Bool.or_eq_true, Bool.not_eq_true'] at h4
        have h5 := h4
        exact fun ρ S => fs_asg (sws_off g.sc h5) (ss_no g.sc h1) (tg_nm h2) (tg_ok h2 g) ((sE tb gf a h3 g).fe ρ S)
      · rw [Bool.and_eq_true] at h4
        obtain ⟨h4, h5⟩ := h4
        unfold compTo at h5
        split at h5
        · obtain ⟨i, rfl, hN⟩ := tg_name (i := 0) h2
          cases a <;> try cases h4
          · obtain ⟨elt, tg, iter, ifs, scope, pos, e, ok, hi, hg, fc, he, hs⟩ := comp_parts tb gf h3 g
            cases e
            exact fun ρ S => fs_asgC g (sw_comp g.sc hk h5) hN (comp_loc h5) (hi ρ S) ok own_ix hg fc he hs
          · rename_i a
            cases a <;> try cases h4
            unfold chkE at h3
            rw [Bool.and_eq_true] at h3
            obtain ⟨elt, tg, iter, ifs, scope, pos, e, ok, hi, hg, fc, he, hs⟩ := comp_parts tb gf h3.2 g
            cases e
            exact fun ρ S => fs_asgCm g (sw_comp g.sc hk h5) hN (comp_loc h5) (hi ρ S) ok own_ix hg fc he hs
        · cases h5
    · cases h
  | .own i a, st, X, h, g => by
    unfold chkS at h; split at h
    · simp only [Bool.and_eq_true, decide_eq_true_eq] at h
      obtain ⟨h1, h2, h3, h4, h5⟩ := h
      obtain ⟨l, f⟩ := st_ok h2
      rw [Bool.or_eq_true] at h5
      rcases h5 with h5 | h5
      · rw [Bool.or_eq_true, Bool.not_eq_true'] at h5
        exact fun ρ S => fs_own g (sw_off g.sc h5) h1 l f ((sE tb gf a h4 g).fn h3 ρ S)
      · rw [Bool.and_eq_true] at h5
        obtain ⟨h5, h6⟩ := h5
        cases a <;> try cases h5
        obtain ⟨elt, tg, iter, ifs, scope, pos, e, ok, hi, hg, fc, he, hs⟩ := comp_parts tb gf h4 g
        cases e
        exact fun ρ S => fs_ownC g (sw_comp g.sc hk h6) h1 (comp_loc h6) (hi ρ S) ok own_ix hg fc he hs
    · cases h
  | .par is as, st, X, h, g => by
    unfold chkS at h; split at h
    · rw [Bool.and_eq_true] at h
      exact sPar hk h.1 g (sA tb gf as h.2 g)
    · cases h
  | .setf o f a, st, X, h, g => by
    unfold chkS at h; split at h
    · simp only [Bool.and_eq_true, decide_eq_true_eq] at h
      obtain ⟨rfl, h2, h3⟩ := h
      exact fun ρ S => fs_setf g gf.toFldOk (sw_tg (.inr rfl)) (fun S => (sE tb gf o h2 g).fe ρ S) ((sE tb gf a h3 g).fe ρ S)
    · cases h
  | .seti o kx a, st, X, h, g => by
    unfold chkS at h; split at h
    · simp only [Bool.and_eq_true] at h
      obtain ⟨h1, h2, h3, h4⟩ := h
      exact fun ρ S => fs_seti g (sws_tg (.inr rfl)) (ss_no g.sc rfl) (set_tree h1) (fun S => (sE tb gf o h2 g).fh ρ S) (fun S => (sE tb gf kx h3 g).fe ρ S) ((sE tb gf a h4 g).fe ρ S)
    · cases h
  | .app o a, st, X, h, g => by
    unfold chkS at h; split at h
    · simp only [Bool.and_eq_true, decide_eq_true_eq, Bool.not_eq_true'] at h
      obtain ⟨rfl, h2, h3, h4, h5, h6⟩ := h
      exact fun ρ S => fs_app g (sw_no rfl) (attr_ok h2) h3 h4 ((sE tb gf o h5 g).fh ρ S) fun S => (sE tb gf a h6 g).fe ρ S
    · cases h
  | .pop none o as, st, X, h, g => by
    unfold chkS at h; split at h
    · obtain ⟨c, q⟩ := sP tb gf h g
      exact fun ρ S => fs_pop (sw_no c) (q ρ S)
    · cases h
  | .pop (some t) o as, st, X, h, g => by
    unfold chkS at h; split at h
    · simp only [Bool.and_eq_true] at h
      obtain ⟨h1, h2, h3⟩ := h
      obtain ⟨c, q⟩ := sP tb gf h3 g
      exact fun ρ S => fs_popT (sws_tg (.inl c)) (ss_no g.sc h2) (tg_nm h1) (tg_ok h1 g) (q ρ S)
    · cases h
  | .expr a, st, X, h, g => by
    unfold chkS at h; split at h
    · simp only [Bool.and_eq_true, Bool.not_eq_true'] at h
      exact fun ρ S => fs_expr (sw_no h.1) ((sE tb gf a h.2 g).fe ρ S)
    · cases h
  | .aug i o a, st, X, h, g => by
    unfold chkS at h; split at h
    · simp only [Bool.and_eq_true, decide_eq_true_eq] at h
      obtain ⟨h1, h2, rfl, h3⟩ := h
      obtain ⟨l, f⟩ := st_ok h2
      exact fun ρ S => fs_aug g h1 l f ((sE tb gf a h3 g).fe ρ S)
    · cases h
  | .ife c a b, st, X, h, g => by
    unfold chkS at h; split at h
    · simp only [Bool.and_eq_true] at h
      obtain ⟨h1, h2, h3⟩ := h
      exact fun ρ S => fs_ife ((sE tb gf c h1 g).ft ρ S) (sSs tb gf hk a h2 g) (sSs tb gf hk b h3 g)
    · cases h
  | .for_ t it b, st, X, h, g => by
    unfold chkS at h; split at h
    · simp only [Bool.and_eq_true] at h
      obtain ⟨h1, h2, h3, h4⟩ := h
      exact fun ρ S => fs_for g (sI tb gf it h3 g ρ S) (tg_ok h2 g) (sSs tb gf hk b h4 g) (fold_ok h1)
    · cases h
  | .while_ c b, st, X, h, g => by
    unfold chkS at h; split at h
    · simp only [Bool.and_eq_true] at h
      exact fun ρ S => fs_while g (sE tb gf c h.1 g).ft (sSs tb gf hk b h.2 g)
    · cases h
  | .ret a, st, X, h, g => by
    unfold chkS at h; split at h
    · exact fun ρ S => fs_ret ((sE tb gf a h g).fe ρ S)
    · cases h
  | .retN, st, X, h, g => by
    unfold chkS at h; split at h
    · exact fun ρ S => fs_retN
    · cases h
  | .brk, st, X, h, g => by
    unfold chkS at h; split at h
    · exact fun ρ S => fs_brk
    · cases h
  | .cnt, st, X, h, g => by
    unfold chkS at h; split at h
    · exact fun ρ S => fs_cnt
    · cases h
  | .pass, st, X, h, g => by
    unfold chkS at h; split at h
    · exact fun ρ S => fs_pass
    · exact fun ρ S => fs_doc
    · cases h
theorem sSs (tb : TbOk p T) (gf : GoodF p k G) (hk : sc.kind = .function) : ∀ (s : Sms) {ss : List Stmt} {X : Cx}, chkSs T N sc s ss = true → Good p N sc fnT (k + 1) X → ∀ ρ S, FSs p X ρ S ss (evSs G s ρ S)
  | .nil, ss, X, h, g => by
    unfold chkSs at h; split at h
    · exact fun ρ S => fss_nil
    · cases h
  | .cons s r, ss, X, h, g => by
    unfold chkSs at h; split at h
    · rw [Bool.and_eq_true] at h
      exact fun ρ S => fss_cons (sS tb gf hk s h.1 g ρ S) (sSs tb gf hk r h.2 g)
    · cases h
  | .frz i r, ss, X, h, g => by
    unfold chkSs at h
    exact fun ρ S => fss_frz (sSs tb gf hk r h g)
end
end
end Z

set_option Elab.async false
set_option linter.all false
set_option maxRecDepth 100000
set_option maxHeartbeats 4000000
namespace Z
open PySem PySem.Spec PyProof.Rows L2

/-! # plain parameters -/
theorem zip_look {us : List Value} : ∀ {ps : List Str}, ps.Nodup → us.length = ps.length → ps.filterMap (fun n => ((ps.zip us).lookup n).map fun v => (n, v)) = ps.zip us := by
  induction us with
  | nil => intro ps _ h; cases ps with | nil => rfl | cons _ _ => cases h
  | cons u us ih =>
    intro ps nd h
    cases ps with
    | nil => cases h
    | cons p ps =>
      rw [List.nodup_cons] at nd
      have h' : us.length = ps.length := by simpa using h
      rw [List.zip_cons_cons, List.filterMap_cons, List.lookup_cons_self]
      simp only [Option.map_some]
      congr 1
      have key : ∀ l : List Str, (∀ x ∈ l, x ≠ p) → l.filterMap (fun n => (List.lookup n ((p, u) :: ps.zip us)).map fun v => (n, v)) = l.filterMap (fun n => (List.lookup n (ps.zip us)).map fun v => (n, v)) := by
        intro l
        induction l with
        | nil => intro _; rfl
        | cons x l ihl =>
          intro hx
          have e : (x == p) = false := by simpa using hx x List.mem_cons_self
          rw [List.filterMap_cons, List.filterMap_cons, List.lookup_cons, e, ihl fun y hy => hx y (List.mem_cons_of_mem _ hy)]
      rw [key ps fun x hx z => nd.1 (by rw [← z]; exact hx)]
      exact ih nd.2 h'
theorem miss_nil {us : List Value} : ∀ {ps : List Str}, us.length = ps.length → ∀ n ∈ ps, ((ps.zip us).lookup n).isNone = false := by
  induction us with
  | nil => intro ps h; cases ps with | nil => intro n hn; cases hn | cons _ _ => cases h
  | cons u us ih =>
    intro ps h n hn
    cases ps with
    | nil => cases h
    | cons p ps =>
      rw [List.zip_cons_cons, List.lookup_cons]
      cases e : n == p with
      | true => rfl
      | false =>
        refine ih (by simpa using h) n ?_
        rcases List.mem_cons.mp hn with z | z
        · rw [z] at e; simp at e
        · exact z
theorem bind_plain {fd : FuncData} {as : List Arg} {ps : List Str} {us : List Value} (hp : fd.params = ⟨[], as, none, [], [], none, []⟩) (hd : fd.defaults = .none) (hn : as.map (·.arg) = ps) (nd : ps.Nodup) (hl : us.length = ps.length) : bindArgs fd ⟨us, []⟩ = pure (ps.zip us) := by
  unfold bindArgs
  have e1 : seqItems? Value.none = pure none := rfl
  have e2 : (ps.filter fun n => (List.lookup n (ps.zip us)).isNone) = [] := by
    rw [List.filter_eq_nil_iff]
    intro n hn
    rw [miss_nil hl n hn]; simp
  have e3 : ¬ (us.length > ps.length) := by omega
  have e4 := zip_look nd hl
  simp only [hp, hd, hn, e1, List.map_nil, List.nil_append, List.append_nil, List.forIn_nil, pure_bind, Option.getD_none, List.length_nil, Nat.sub_zero, List.take_length, List.drop_length, List.zip_nil_left, List.zip_nil_right, List.drop_nil, e2, List.isEmpty_nil, Bool.not_true, Bool.false_eq_true, if_false, decide_eq_false e3, Bool.false_and, e4]

/-! # the top's facts -/
def Cst.v : Cst → V
  | .non => .non | .bl b => .bl b | .int i => .int i | .str x => .str x
def seqO (o : Obj) : Bool := match o.data with
  | .seq _ _ => true
  | _ => false
/-- the written part, without lists and tuples -/
def frZ (g : Addr → Option Obj) (as : List Addr) : PySem.W.Frag := (He.frG g as).filter fun q => !seqO q.2
theorem mem_of_look {a : Addr} {o : Obj} : ∀ {l : List (Addr × Obj)}, l.lookup a = some o → (a, o) ∈ l
  | (b, u) :: r, h => by
    rw [List.lookup_cons] at h
    split at h
    · rename_i e
      cases h
      rw [eq_of_beq e]
      exact List.mem_cons_self
    · exact List.mem_cons_of_mem _ (mem_of_look h)
theorem frZ_mem {g : Addr → Option Obj} {as : List Addr} {a : Addr} {o : Obj} (h : (frZ g as).lookup a = some o) : g a = some o ∧ seqO o = false := by
  obtain ⟨h1, h2⟩ := List.mem_filter.mp (mem_of_look h)
  refine ⟨?_, by simpa using h2⟩
  unfold He.frG at h1
  obtain ⟨b, _, e⟩ := List.mem_filterMap.mp h1
  obtain ⟨u, e1, e2⟩ := Option.map_eq_some_iff.mp e
  cases e2
  exact e1
/-- a constant of the top: its value; a tuple's things -/
def conB (K : PySem.W.Frag) (g : Addr → Option Obj) (q : Str × GC) : Bool := match PySem.W.nsIn K mainGlobals q.1 with
  | some (some u) => (match q.2 with
    | .one c => He.relB c.v u
    | .many cs => (match u with
      | .ref a => (match g a with
        | some ⟨.type c, _, .seq its _, _⟩ => decide (c = "tuple") && (decide (its.size ≤ sizeLine) && (He.relAll (cs.map Cst.v) its.toList && badVs.any fun vs => decide (vs = cs.map Cst.v)))
        | _ => false)
      | _ => false))
  | _ => false
structure DefR where
  d : He.DefD
  N : List Str
  np : Nat
  body : Sms
structure Conf where
  rs : List DefR
  flds : List (Str × List Str)
  bn : List Str
  cs : List (Str × GC)
def Conf.prog (c : Conf) : Prog := ⟨c.rs.map fun r => (r.d.at_, ⟨r.np, r.N.length, r.body⟩), c.flds⟩
def Conf.tb (c : Conf) : Tb := ⟨c.cs, c.bn⟩
def defFa (r : DefR) : List He.Fa := match r.d.at_ with
  | (x, none) => [.glo x, .keep x]
  | (C, some m) => [.glo C, .cls C, .meth C m] ++ if m = "__init__" then [.mkr C] else []
def Conf.fa (c : Conf) : List He.Fa := c.rs.flatMap defFa ++ (c.flds.flatMap fun q => .cls q.1 :: q.2.map (.noat q.1 ·)) ++ c.bn.map .free
def Conf.fn (c : Conf) : List He.DefD := c.rs.map (·.d)
def obsZ (n : Nat) (c : Conf) (g : Addr → Option Obj) : He.AlD := let K := frZ g (He.asD g n)
  ((He.obsD c.fa c.fn K).1 && c.cs.all (conB K g), (He.obsD c.fa c.fn K).2)
def SaysZ (c : Conf) (h : Heap) : Prop := ∃ K : PySem.W.Frag, K.In h ∧ (∀ a o, K.lookup a = some o → seqO o = false) ∧ He.SaysD c.fa c.fn K ∧ ∀ q ∈ c.cs, conB K h.get? q = true
def hookZ (n : Nat) (c : Conf) : PySem.W.Hook where
  α := He.AlD
  obs := fun s => obsZ n c s.heap.get?
  val := fun _ => He.valD c.fn
  says := fun _ h => SaysZ c h
  of := fun _ s e => by
    have e0 : obsZ n c s.heap.get? = He.valD c.fn := e
    have e1 : (obsZ n c s.heap.get?).1 = true := by rw [e0]; rfl
    have e2 : (obsZ n c s.heap.get?).2 = (He.valD c.fn).2 := by rw [e0]
    have e1 : ((He.obsD c.fa c.fn (frZ s.heap.get? (He.asD s.heap.get? n))).1 && c.cs.all (conB (frZ s.heap.get? (He.asD s.heap.get? n)) s.heap.get?)) = true := e1
    rw [Bool.and_eq_true] at e1
    refine ⟨_, fun a o h => (frZ_mem h).1, fun a o h => (frZ_mem h).2, ?_, fun q hq => List.all_eq_true.mp e1.2 q hq⟩
    show He.obsD c.fa c.fn _ = He.valD c.fn
    exact Prod.ext e1.1 e2
  keeps := fun _ h h' ⟨K, hK, hs, c1, c2⟩ k => ⟨K, PySem.W.Frag.In.keeps hK k, hs, c1, fun q hq => by
    have z := c2 q hq
    unfold conB at z ⊢
    split at z
    · split at z
      · exact z
      · split at z
        · split at z
          · rename_i e
            rw [k _ _ e]
            exact z
          · cases z
        · cases z
    · cases z⟩
theorem obsZ_eq {n : Nat} {c : Conf} {g : Addr → Option Obj} {s : Shared} (h : ∀ a, g a = s.heap.get? a) : obsZ n c g = (hookZ n c).obs s := by
  have e : g = s.heap.get? := funext h
  rw [e] <;> rfl

/-! # the defs' check -/
def paramsB (p : Arguments) (ps : List Str) : Bool := p.posonlyargs.isEmpty && (p.vararg.isNone && (p.kwonlyargs.isEmpty && (p.kw_defaults.isEmpty && (p.kwarg.isNone && (p.defaults.isEmpty && decide (p.args.map (·.arg) = ps))))))
def scopeB (N ps : List Str) (sc : Scope) : Bool := decide (sc.kind = .function) && (!sc.isCoroutine && (!sc.isGenerator && (decide N.Nodup && (decide (N.take ps.length = ps) && ((ps.all fun x => match sc.names.lookup x with
  | some .local => true | some .cell => true
  | _ => false) && sc.names.all fun y => match y.2 with
  | .free => false
  | _ => true)))))
def chkDef (tb : Tb) (r : DefR) : Bool := decide (r.np ≤ r.N.length) && (paramsB r.d.params (r.N.take r.np) && (scopeB r.N (r.N.take r.np) r.d.scope && (r.d.dfl.isEmpty && (r.d.kwd.isEmpty && chkSs tb r.N r.d.scope r.body r.d.body))))
def Conf.ok (c : Conf) : Bool := c.rs.all (chkDef c.tb) && (decide (c.cs.map (·.1)).Nodup && decide (c.rs.map fun r => r.d.at_).Nodup)
theorem scope_ok {N ps : List Str} {sc : Scope} (h : scopeB N ps sc = true) : FnScope N ps sc := by
  unfold scopeB at h
  simp only [Bool.and_eq_true, decide_eq_true_eq, Bool.not_eq_true'] at h
  obtain ⟨h1, h2, h3, h4, h5, h6, h7⟩ := h
  refine ⟨h1, h2, h3, h4, h5, fun x hx => ?_, fun y hy e => ?_⟩
  · have := List.all_eq_true.mp h6 x hx
    split at this
    · exact .inl (by assumption)
    · exact .inr (by assumption)
    · cases this
  · have := List.all_eq_true.mp h7 y hy
    rw [e] at this
    cases this
theorem params_ok {p : Arguments} {ps : List Str} (h : paramsB p ps = true) : ∃ as : List Arg, p = ⟨[], as, none, [], [], none, []⟩ ∧ as.map (·.arg) = ps := by
  obtain ⟨a1, a2, a3, a4, a5, a6, a7⟩ := p
  unfold paramsB at h
  simp only [Bool.and_eq_true, decide_eq_true_eq, List.isEmpty_iff, Option.isNone_iff_eq_none] at h
  obtain ⟨rfl, rfl, rfl, rfl, rfl, rfl, h⟩ := h
  exact ⟨a2, rfl, h⟩
def Conf.pg (c : Conf) (P : Program) (w : World) (K : PySem.W.Frag) (mg : Str → Option Value) (base : Heap) : Pg := ⟨P, w, K, mg, base, fun C => some (He.ga K C), fun x => (c.cs.lookup x).map GC.d⟩
section
variable {c : Conf} {P : Program} {w : World} {K : PySem.W.Frag} {mg : Str → Option Value} {base : Heap}
theorem look_nd {κ β : Type} [BEq κ] [LawfulBEq κ] {x : κ} {y : β} : ∀ {l : List (κ × β)}, (l.map (·.1)).Nodup → (x, y) ∈ l → l.lookup x = some y
  | (a, b) :: l, nd, h => by
    rw [List.map_cons, List.nodup_cons] at nd
    rw [List.lookup_cons]
    rcases List.mem_cons.mp h with e | h
    · cases e
      simp
    · have : (x == a) = false := by
        rw [beq_eq_false_iff_ne]
        intro z
        rw [z] at h
        exact nd.1 (List.mem_map.mpr ⟨_, h, rfl⟩)
      rw [this]
      exact look_nd nd.2 h
theorem mem_of_lookup' {κ β : Type} [BEq κ] [LawfulBEq κ] {x : κ} {y : β} : ∀ {l : List (κ × β)}, l.lookup x = some y → (x, y) ∈ l
  | (a, b) :: l, h => by
    rw [List.lookup_cons] at h
    split at h
    · rename_i e
      cases h
      rw [eq_of_beq e]
      exact List.mem_cons_self
    · exact List.mem_cons_of_mem _ (mem_of_lookup' h)
theorem level (ok : c.ok = true) (says : He.SaysD c.fa c.fn K) (X : K.In base) (G : base.Ns mainGlobals mg) : ∀ n, GoodF (c.pg P w K mg base) (2 * n) (run c.prog n) := by
  have facts : ∀ f ∈ c.fa, f.ok K = true := fun f hf => by
    obtain ⟨i, hi, he⟩ := List.getElem_of_mem hf
    exact says.fact i (by rw [List.getElem?_eq_getElem hi, he])
  unfold Conf.ok at ok
  simp only [Bool.and_eq_true, decide_eq_true_eq] at ok
  obtain ⟨ok1, ok2, ok3⟩ := ok
  have tbok : TbOk (c.pg P w K mg base) c.tb := {
    con := fun x g h => by
      show (c.cs.lookup x).map GC.d = _
      rw [look_nd ok2 h]; rfl
    bn := fun x h => He.free_ok X G (facts _ (by unfold Conf.fa; simp only [List.mem_append, List.mem_map]; exact .inr ⟨x, h, rfl⟩)) }
  have fld : ∀ n, FldOk (c.pg P w K mg base) (run c.prog n) := fun n => {
    fld := fun C f Ca h hC => by
      cases hC
      have h : c.prog.fld C f = true := h
      unfold Prog.fld at h
      split at h
      · rename_i l hl
        have hm := mem_of_lookup' hl
        have hf : f ∈ l := of_decide_eq_true h
        refine ⟨He.cls_ok (facts (.cls C) ?_), He.noat_ok (facts (.noat C f) ?_)⟩
        · unfold Conf.fa
          simp only [List.mem_append, List.mem_flatMap]
          exact .inl (.inr ⟨_, hm, List.mem_cons_self⟩)
        · unfold Conf.fa
          simp only [List.mem_append, List.mem_flatMap]
          exact .inl (.inr ⟨_, hm, List.mem_cons_of_mem _ (List.mem_map.mpr ⟨f, hf, rfl⟩)⟩)
      · cases h }
  intro n
  induction n with
  | zero =>
    refine { toFldOk := fld 0, fn := fun x ds S r h => ?_, mt := fun C m ds S r h => ?_ }
    · cases h
    · cases h
  | succ n ih =>
    -- each def
    have one : ∀ {key : Str × Option Str} {fd : Fd}, c.prog.defs.lookup key = some fd → ∃ r ∈ c.rs, r.d.at_ = key ∧ ∃ fdt, He.fAd K key = He.fAd K key ∧ PySem.W.keepIn K (.ref (He.fAd K key)) = true ∧ Binds K fdt (r.N.take r.np) [] ∧
        FnG (c.pg P w K mg base) (2 * (n + 1)) (He.fAd K key) fdt (r.N.take r.np) (runF c.prog (n + 1) key) := fun {key fd} hl => by
      have hm := mem_of_lookup' hl
      obtain ⟨r, hr, e⟩ := List.mem_map.mp hm
      cases e
      have hc := List.all_eq_true.mp ok1 r hr
      unfold chkDef at hc
      simp only [Bool.and_eq_true, decide_eq_true_eq, List.isEmpty_iff] at hc
      obtain ⟨c1, c2, c3, c4, c5, c6⟩ := hc
      have sc := scope_ok c3
      obtain ⟨as, p1, p2⟩ := params_ok c2
      obtain ⟨i, hi, he⟩ := List.getElem_of_mem hr
      obtain ⟨fdt, F⟩ := says.def_ i (d := r.d) (by show (c.rs.map (·.d))[i]? = _; rw [List.getElem?_map, List.getElem?_eq_getElem hi, he]; rfl)
      have F : FunD K r.d.name r.d.qual r.d.params r.d.body r.d.scope [] [] (He.fAd K r.d.at_) fdt := by
        have e1 : r.d.dvs K = [] := by unfold He.DefD.dvs; rw [c4]; rfl
        have e2 : r.d.kws K = [] := by unfold He.DefD.kws; rw [c5]; rfl
        rw [e1, e2] at F; exact F
      have nd : (r.N.take r.np).Nodup := sc.nd.sublist (List.take_sublist _ _)
      refine ⟨r, hr, rfl, fdt, rfl, F.kp, F.bindsN fun kV doc pm an cdv ct us hu => bind_plain p1 rfl p2 nd hu, ?_⟩
      obtain ⟨oc, od, dV, kV, doc, pm, an, cdv, ct, osl, rfl, lk, hcd, _, _⟩ := F.ex
      have hlen : (r.N.take r.np).length = r.np := by rw [List.length_take]; omega
      have D := def_ok (p := c.pg P w K mg base) (k := 2 * n + 1) lk hcd sc (r := evSs (run c.prog n) r.body) fun X' g' => sSs tbok ih sc.kind r.body c6 g'
      have e : (fun ds S => if ds.length = (r.N.take r.np).length then (evSs (run c.prog n) r.body (stS r.N (r.N.take r.np) ds) S).bind outR else none) = runF c.prog (n + 1) r.d.at_ := by
        funext ds S
        show _ = (match c.prog.defs.lookup r.d.at_ with
          | some fd => _
          | none => none)
        rw [hl]
        simp only [hlen, stS]
        congr 2
      rw [e] at D
      exact D
    refine { toFldOk := fld _, fn := fun x ds S r h => ?_, mt := fun C m ds S r h => ?_ }
    · have h : runF c.prog (n + 1) (x, none) ds S = some r := h
      cases hl : c.prog.defs.lookup (x, none) with
      | none => unfold runF at h; rw [hl] at h; cases h
      | some fd =>
        obtain ⟨r, hr, e, fdt, _, kp, bd, D⟩ := one hl
        refine ⟨_, fdt, _, He.glo_ok X G (facts (.glo x) ?_), kp, bd, D⟩
        unfold Conf.fa
        simp only [List.mem_append, List.mem_flatMap]
        refine .inl (.inl ⟨r, hr, ?_⟩)
        unfold defFa
        rw [e]
        exact List.mem_cons_self
    · have h : runF c.prog (n + 1) (C, some m) ds S = some r := h
      cases hl : c.prog.defs.lookup (C, some m) with
      | none => unfold runF at h; rw [hl] at h; cases h
      | some fd =>
        obtain ⟨r, hr, e, fdt, _, kp, bd, D⟩ := one hl
        have mem : ∀ f ∈ defFa r, f.ok K = true := fun f hf => facts f (by
          unfold Conf.fa
          simp only [List.mem_append, List.mem_flatMap]
          exact .inl (.inl ⟨r, hr, hf⟩))
        have e3 : defFa r = [.glo C, .cls C, .meth C m] ++ if m = "__init__" then [.mkr C] else [] := by unfold defFa; rw [e]
        rw [e3] at mem
        refine ⟨He.ga K C, He.fAd K (C, some m), fdt, _, He.glo_ok X G (mem _ (by simp)), rfl, He.cls_ok (mem _ (by simp)), He.meth_ok (mem _ (by simp)), bd, D, fun hm => ?_⟩
        subst hm
        exact He.mkr_ok (mem (.mkr C) (by simp))
end
end Z

set_option Elab.async false
set_option linter.all false
set_option maxRecDepth 100000
set_option maxHeartbeats 4000000
namespace Z
open PySem PySem.Spec PyProof.Rows L2

/-! # the law's call -/
def scV : Value → V
  | .none => .non | .bool b => .bl b | .int i _ => .int i | .str x _ => .str x
  | _ => .non
theorem scV_rel {q : Cst} {u : Value} (h : He.relB q.v u = true) : scV u = q.v ∧ RelV q.v u := by
  refine ⟨?_, He.relB_ok h⟩
  have r := He.relB_ok h
  cases q with
  | non => cases (show u = .none from r); rfl
  | bl b => cases (show u = .bool b from r); rfl
  | int i => obtain ⟨t, e⟩ := (show ∃ t, u = .int i t from r); cases e; rfl
  | str x => obtain ⟨t, e⟩ := (show ∃ t, u = .str x t from r); cases e; rfl
theorem scVs_rel : ∀ {cs : List Cst} {us : List Value}, He.relAll (cs.map Cst.v) us = true → us.map scV = cs.map Cst.v ∧ Vals (cs.map Cst.v) us
  | [], [], _ => ⟨rfl, .nil⟩
  | [], _ :: _, h => by cases h
  | _ :: _, [], h => by cases h
  | c :: cs, u :: us, h => by
    obtain ⟨h1, h2⟩ := He.ba (show (He.relB c.v u && He.relAll (cs.map Cst.v) us) = true from h)
    obtain ⟨e1, r1⟩ := scV_rel h1
    obtain ⟨e2, r2⟩ := scVs_rel h2
    exact ⟨by rw [List.map_cons, List.map_cons, e1, e2], .cons r1 r2⟩
/-- the top's tuples, each with its object -/
structure Held (h : Heap) (T : Addr → Option (Obj × List V)) : Prop where
  at_ : ∀ a o vs, T a = some (o, vs) → h.get? a = some o ∧ o.cls = .type "tuple" ∧ (∃ its n, o.data = .seq its n ∧ its.size ≤ sizeLine ∧ Vals vs its.toList) ∧ vs ∈ badVs
theorem cst_rep {K : PySem.W.Frag} {F : Hp} {ι : List Addr} (c : Cst) : Rep K F ι c.v c.d := by
  cases c with
  | non => exact .non
  | bl b => exact .bl b
  | int i => exact .int i
  | str x => exact .str x
theorem csts_rep {K : PySem.W.Frag} {F : Hp} {ι : List Addr} : ∀ cs : List Cst, Reps K F ι (cs.map Cst.v) (cs.map Cst.d)
  | [] => .nil
  | c :: cs => .cons (cst_rep c) (csts_rep cs)
/-- the table of the top's tuples -/
def tabC (K : PySem.W.Frag) (h : Heap) (cs : List (Str × GC)) (a : Addr) : Option (Obj × List V) := match cs with
  | [] => none
  | (x, .many ks) :: r => if a = He.ga K x then (h.get? a).map fun o => (o, ks.map Cst.v) else tabC K h r a
  | (_, .one _) :: r => tabC K h r a
theorem conB_many {K : PySem.W.Frag} {h : Heap} {x : Str} {ks : List Cst} (e : conB K h.get? (x, .many ks) = true) : PySem.W.nsIn K mainGlobals x = some (some (.ref (He.ga K x))) ∧ ∃ o its n, h.get? (He.ga K x) = some o ∧ o.cls = .type "tuple" ∧ o.data = .seq its n ∧ its.size ≤ sizeLine ∧ Vals (ks.map Cst.v) its.toList ∧ ks.map Cst.v ∈ badVs := by
  unfold conB at e
  split at e
  · rename_i u hu
    have hu : PySem.W.nsIn K mainGlobals x = some (some u) := hu
    simp only at e
    split at e
    · rename_i a _
      have hga : He.ga K x = a := by unfold He.ga; rw [hu]
      split at e
      · rename_i c od its n sl hg
        simp only [Bool.and_eq_true, decide_eq_true_eq, List.any_eq_true] at e
        obtain ⟨rfl, h1, h2, vs, hv, he⟩ := e
        refine ⟨by rw [hga]; exact hu, _, its, n, by rw [hga]; exact hg, rfl, rfl, h1, (scVs_rel h2).2, by rw [← he]; exact hv⟩
      · cases e
    · cases e
  · cases e
theorem conB_one {K : PySem.W.Frag} {g : Addr → Option Obj} {x : Str} {q : Cst} (e : conB K g (x, .one q) = true) : ∃ u, PySem.W.nsIn K mainGlobals x = some (some u) ∧ RelV q.v u := by
  unfold conB at e
  split at e
  · rename_i u hu
    exact ⟨u, hu, (scV_rel e).2⟩
  · cases e
theorem tab_held {K : PySem.W.Frag} {h : Heap} : ∀ {cs : List (Str × GC)}, (∀ q ∈ cs, conB K h.get? q = true) → Held h (tabC K h cs)
  | [], _ => ⟨fun a o vs e => by cases e⟩
  | (x, .one c) :: r, H => by
    have := tab_held (cs := r) fun q hq => H q (List.mem_cons_of_mem _ hq)
    exact ⟨fun a o vs e => this.at_ a o vs e⟩
  | (x, .many ks) :: r, H => by
    have ih := tab_held (cs := r) fun q hq => H q (List.mem_cons_of_mem _ hq)
    refine ⟨fun a o vs e => ?_⟩
    unfold tabC at e
    split at e
    · rename_i ha
      obtain ⟨_, o', its, n, h1, h2, h3, h4, h5, h6⟩ := conB_many (H _ List.mem_cons_self)
      subst ha
      rw [h1] at e
      cases e
      exact ⟨h1, h2, ⟨its, n, h3, h4, h5⟩, h6⟩
    · exact ih.at_ a o vs e
theorem tab_has {K : PySem.W.Frag} {h : Heap} {x : Str} {ks : List Cst} : ∀ {cs : List (Str × GC)}, (∀ q ∈ cs, conB K h.get? q = true) → (x, .many ks) ∈ cs → ∃ o, tabC K h cs (He.ga K x) = some (o, ks.map Cst.v)
  | (y, .one c) :: r, H, hm => by
    rcases List.mem_cons.mp hm with e | hm
    · cases e
    · exact tab_has (cs := r) (fun q hq => H q (List.mem_cons_of_mem _ hq)) hm
  | (y, .many ls) :: r, H, hm => by
    obtain ⟨_, o, its, n, h1, _, h3, _, h5, _⟩ := conB_many (H (y, .many ls) List.mem_cons_self)
    unfold tabC
    by_cases ha : He.ga K x = He.ga K y
    · rw [if_pos ha, ha, h1]
      refine ⟨o, ?_⟩
      show some (o, ls.map Cst.v) = _
      obtain ⟨_, o2, its2, n2, k1, _, k3, _, k5, _⟩ := conB_many (H (x, .many ks) hm)
      rw [ha, h1] at k1
      cases k1
      rw [h3] at k3
      cases k3
      rw [Vals.inj h5 k5]
    · rw [if_neg ha]
      rcases List.mem_cons.mp hm with e | hm
      · cases e; exact absurd rfl ha
      · exact tab_has (cs := r) (fun q hq => H q (List.mem_cons_of_mem _ hq)) hm
theorem ints_reps {K : PySem.W.Frag} {F : Hp} {ι : List Addr} : ∀ ns : List Int, Reps K F ι (ns.map V.int) (ns.map D.int)
  | [] => .nil
  | n :: ns => .cons (.int n) (ints_reps ns)
section
open Classical
/-- the heap at the call: the script and the top's tuples, both held as they are -/
def hp0 (T : Addr → Option (Obj × List V)) (a : Addr) (os : Obj) (ns : List Int) : Hp := fun b => if b = a then some (.frz os (.lst (ns.map .int))) else (T b).map fun q => .frz q.1 (.tup q.2)
def fp0 (T : Addr → Option (Obj × List V)) : Hp := fun b => (T b).map fun q => .tup q.2
theorem law_run {c : Conf} {P : Program} {w : World} {K : PySem.W.Frag} {mg mb : Str → Option Value} {N : Nat} {fa a : Addr} {s₁ : Shared} {vs : List Value} {ns : List Int} {S' : Store}
    (ok : c.ok = true) (says : He.SaysD c.fa c.fn K) (noseq : ∀ a o, K.lookup a = some o → seqO o = false) (con : ∀ q ∈ c.cs, conB K s₁.heap.get? q = true)
    (KX : K.In s₁.heap) (hns : s₁.heap.Ns mainGlobals mg) (hb : s₁.heap.Ns builtinsNs mb) (hbb : ∀ x : Str, x ≠ "__name__" → mb x = bootBuiltins x) (hlim : s₁.heap.NoLimit) (hg : s₁.gens = #[])
    (ha : s₁.heap.get? a = some { cls := .type "list", data := .seq vs.toArray }) (hi : IntsAre vs ns) (hl : ns.length ≤ sizeLine) (hr : Room (2 * N) callerA) (hfa : mg "law" = some (.ref fa))
    (ev : runF c.prog N ("law", none) [.ref 0] [.lck (.lst (ns.map D.int))] = some (.bl true, S')) :
    codeAny (model P w) callerA (.call (.ref fa) ⟨[.ref a], []⟩) (fun r s' => r = .ok (.ret (.bool true)) ∧ OldK s₁.heap s'.heap ∧ s'.os = s₁.os ∧ AllBare s'.gens) s₁ := by
  have rv := vals_ints hi
  have lenV := hi.length
  have held := tab_held con
  generalize hT : tabC K s₁.heap c.cs = T at held
  have Ta : T a = none := by
    cases e : T a with
    | none => rfl
    | some q =>
      obtain ⟨h1, h2, _⟩ := held.at_ a q.1 q.2 e
      rw [ha] at h1
      rw [← Option.some.inj h1] at h2
      simp at h2
  generalize hos : ({ cls := .type "list", data := .seq vs.toArray } : Obj) = os at ha
  have H0a : hp0 T a os ns a = some (.frz os (.lst (ns.map .int))) := if_pos rfl
  have H0b : ∀ {b o us}, T b = some (o, us) → hp0 T a os ns b = some (.frz o (.tup us)) := fun {b o us} e => by
    have hb : b ≠ a := fun z => by rw [z, Ta] at e; cases e
    unfold hp0
    rw [if_neg hb, e]; rfl
  have H0n : ∀ {b u}, hp0 T a os ns b = some u → (b = a ∧ u = .frz os (.lst (ns.map .int))) ∨ ∃ o us, T b = some (o, us) ∧ u = .frz o (.tup us) := fun {b u} e => by
    unfold hp0 at e
    split at e
    · rename_i hb; cases e; exact .inl ⟨hb, rfl⟩
    · obtain ⟨q, e1, e2⟩ := Option.map_eq_some_iff.mp e
      exact .inr ⟨q.1, q.2, e1, e2.symm⟩
  -- what is tracked is a list, a tuple
  have seq_of : ∀ {b u o}, hp0 T a os ns b = some u → s₁.heap.get? b = some o → seqO o = true := fun {b u o} e g => by
    rcases H0n e with ⟨rfl, _⟩ | ⟨o', us, h1, _⟩
    · rw [ha] at g; cases g; subst hos; rfl
    · obtain ⟨k1, _, ⟨its, n, k2, _⟩, _⟩ := held.at_ b o' us h1
      rw [k1] at g; cases g
      unfold seqO; rw [k2]
  have hok : HOk P w (hp0 T a os ns) s₁.heap := fun b u e => by
    rcases H0n e with ⟨rfl, rfl⟩ | ⟨o', us, h1, rfl⟩
    · exact ⟨ha, by rw [List.length_map]; exact hl, vs, _, rv, by subst hos; exact ha⟩
    · obtain ⟨k1, k0, ⟨its, n, k2, k3, k4⟩, _⟩ := held.at_ b o' us h1
      exact ⟨k1, by rw [k4.length]; simpa using k3, its.toList, k4, ⟨o', k1, k0, n, by simpa using k2⟩⟩
  have base_of : ∀ {b : Addr} {o : Obj}, s₁.heap.get? b = some o → seqO o = false → (hidT s₁.heap (hp0 T a os ns)).get? b = some o := fun {b o} e n => hidT_get e (by
    cases q : hp0 T a os ns b with
    | none => rfl
    | some u => rw [seq_of q e] at n; cases n)
  have hKb : K.In (hidT s₁.heap (hp0 T a os ns)) := fun b o e => base_of (KX b o e) (noseq b o e)
  have nsK : ∀ {b : Addr} {m : Str → Option Value}, s₁.heap.Ns b m → (hidT s₁.heap (hp0 T a os ns)).Ns b m := fun {b m} ⟨o, es, ep, e, d, r⟩ => ⟨o, es, ep, base_of e (by unfold seqO; rw [d]), d, r⟩
  have hM : Mod K mg (hidT s₁.heap (hp0 T a os ns)) := ⟨hKb, nsK hns, ⟨mb, nsK hb, hbb⟩, let ⟨mc, h1, h2⟩ := hlim; ⟨mc, nsK h1, h2⟩⟩
  have e0 : Env0 P w K mg (hidT s₁.heap (hp0 T a os ns)) callerA [] s₁ (hp0 T a os ns) := ⟨rfl, hM, fun b o e => of_hidT e, Nat.le_of_eq (hidT_size _ _), trivial, fun b hb => absurd (show b ∈ ([] : List Addr) from hb) (by simp), hok, .of_eq hg⟩
  have lev := level (P := P) (w := w) ok says hKb (nsK hns) N
  obtain ⟨f, fdt, ps, m1, kp, bd, Df⟩ := lev.fn "law" _ _ _ ev
  have m1 : mg "law" = some (.ref f) := m1
  rw [hfa] at m1
  cases m1
  have hlen := Df.len _ _ _ ev
  have fsub : ∀ b o, fp0 T b = some o → ∃ q us, T b = some (q, us) ∧ o = .tup us := fun b o e => by
    obtain ⟨q, e1, e2⟩ := Option.map_eq_some_iff.mp e
    exact ⟨q.1, q.2, e1, e2.symm⟩
  have wd : Wd (c.pg P w K mg (hidT s₁.heap (hp0 T a os ns))) (fun _ => none) [.lck (.lst (ns.map D.int))] (fp0 T) [a] (hp0 T a os ns) := {
    sub := fun b o e => by
      obtain ⟨q, us, h1, rfl⟩ := fsub b o e
      exact .inr ⟨.inr (.inr ⟨us, (held.at_ b q us h1).2.2.2, rfl⟩), q, H0b h1⟩
    con := fun x d e => by
      obtain ⟨gc, e1, e2⟩ := Option.map_eq_some_iff.mp e
      subst e2
      have hm := mem_of_lookup' e1
      cases gc with
      | one q =>
        obtain ⟨u, h1, h2⟩ := conB_one (con _ hm)
        exact ⟨u, q.v, PySem.W.mg_of hKb (nsK hns) h1, h2, cst_rep q⟩
      | many ks =>
        obtain ⟨h1, _⟩ := conB_many (con _ hm)
        obtain ⟨o, h2⟩ := tab_has con hm
        rw [hT] at h2
        exact ⟨.ref (He.ga K x), .ref (He.ga K x), PySem.W.mg_of hKb (nsK hns) h1, rfl, .tup (by unfold fp0; rw [h2]; rfl) (csts_rep ks)⟩
    len := rfl
    nd := by simp
    cell := fun n cl b h1 h2 => by
      match n, h1, h2 with
      | 0, h1, h2 =>
        cases h1; cases h2
        refine ⟨by unfold fp0; rw [Ta]; rfl, ?_⟩
        exact ⟨os, ns.map .int, H0a, ints_reps ns⟩
      | n + 1, h1, h2 => simp at h1
    prot := fun b o e => by cases e }
  have bind := bd s₁ [.ref a] KX (by rw [List.append_nil]; exact hlen)
  rw [List.append_nil] at bind
  refine codeAny_mono (Df.run callerA [] s₁ (hp0 T a os ns) ⟨[.ref a], []⟩ [.ref a] [.ref a] _ _ _ _ _ (fp0 T) [a] hr rfl e0 bind (.cons rfl .nil) (.cons (.ref (n := 0) rfl) .nil) wd ev) fun r s' h => ?_
  obtain ⟨u, rfl, v, H', hos', bare, un, hok', ru, F', ι', W, _, _, rr⟩ := h
  cases rr
  obtain rfl : u = Value.bool true := ru
  refine ⟨rfl, OldK.of_keep fun b o e => ?_, hos', bare⟩
  cases q : hp0 T a os ns b with
  | none => exact un.keep b o e q (by intro z; exact absurd (show b ∈ ([] : List Addr) from z) (by simp)) (by simp)
  | some u =>
    have frz : ∃ ob x, u = .frz ob x := by
      rcases H0n q with ⟨_, rfl⟩ | ⟨_, _, _, rfl⟩
      · exact ⟨_, _, rfl⟩
      · exact ⟨_, _, rfl⟩
    obtain ⟨ob, x, rfl⟩ := frz
    have z2 := un.frzs b ob _ q
    obtain ⟨e1, _⟩ := hok b _ q
    obtain ⟨e2, _⟩ := hok' b _ z2
    rw [e] at e1; cases e1
    exact e2
end
theorem law_z {l : PySem.W.OpenLaw} {n N h : Nat} {q : Program} {loose : List Str} {XP : (Str → Option Value) → Heap → Prop} {d : DefRec} (c : Conf) (ok : c.ok = true) (hn : l.most = some n) (hn2 : n ≤ sizeLine) (hdf : d.params.defaults = []) (hname : d.name = ("law" : Str)) (hr : Room (2 * N) callerA)
    (ev : ∀ ns : List Int, ns.length ≤ n → ∃ S', runF c.prog N ("law", none) [.ref 0] [.lck (.lst (ns.map D.int))] = some (.bl true, S')) :
    PySem.W.WalkO q loose XP (hookZ h c).says l.row.toRowW d [] (fun f vs => PySem.call f vs) := by
  refine Att.attach_call hn hdf fun w s₀ s₁ mg mb fa o pm cd doc a vs ns G Y ho hd hcd hmg hobj hints hlen hg => ?_
  obtain ⟨K, KX, noseq, says, con⟩ := Y
  obtain ⟨S', ev⟩ := ev ns hlen
  rw [hname] at hmg
  exact law_run ok says noseq con KX G.T.g G.T.b G.T.builtins G.T.nolimit hg hobj hints (Nat.le_trans hlen hn2) hr hmg ev
end Z

set_option Elab.async false
set_option linter.all false
set_option maxRecDepth 100000
set_option maxHeartbeats 4000000
namespace Z
open PySem PySem.Spec PyProof.Rows L2

/-! # reckoning with the evaluator -/
theorem eqD_int (a b : Int) : eqD (.int a) (.int b) = decide (a = b) := by simp only [eqD, D.py, PyData.eqv]; exact Bool.beq_eq_decide_eq a b
theorem eqD_str (a b : Str) : eqD (.str a) (.str b) = decide (a = b) := by simp only [eqD, D.py, PyData.eqv]; exact Bool.beq_eq_decide_eq a b
theorem eqD_bl (a b : Bool) : eqD (.bl a) (.bl b) = (a == b) := by simp only [eqD, D.py, PyData.eqv]
theorem eqD_non : eqD .non .non = true := by simp only [eqD, D.py, PyData.eqv]
theorem eqD_tup (xs ys : List D) : eqD (.tup xs) (.tup ys) = PyData.eqvAll (pys xs) (pys ys) := by simp only [eqD, D.py, PyData.eqv]
theorem eqD_lst (xs ys : List D) : eqD (.lst xs) (.lst ys) = PyData.eqvAll (pys xs) (pys ys) := by simp only [eqD, D.py, PyData.eqv]
theorem eqA_cons (x y : D) (xs ys : List D) : PyData.eqvAll (pys (x :: xs)) (pys (y :: ys)) = (eqD x y && PyData.eqvAll (pys xs) (pys ys)) := by simp only [pys, PyData.eqvAll, eqD]
theorem eqA_nil : PyData.eqvAll (pys []) (pys []) = true := by simp only [pys, PyData.eqvAll]
theorem eqA_l (x : D) (xs : List D) : PyData.eqvAll (pys (x :: xs)) (pys []) = false := by simp only [pys, PyData.eqvAll]
theorem eqA_r (x : D) (xs : List D) : PyData.eqvAll (pys []) (pys (x :: xs)) = false := by simp only [pys, PyData.eqvAll]
theorem ltD_int (a b : Int) : ltD (.int a) (.int b) = decide (a < b) := by simp only [ltD, D.py]; exact PySem.W.dataLt_int a b
theorem ltD_str (a b : Str) : ltD (.str a) (.str b) = decide (a.cps.toList < b.cps.toList) := by simp only [ltD, D.py]; exact PySem.W.dataLt_str a b
theorem ltD_cons (x y : D) (xs ys : List D) (h : likeD x y = true) : ltD (.tup (x :: xs)) (.tup (y :: ys)) = if eqD x y = true then ltD (.tup xs) (.tup ys) else ltD x y := by
  unfold ltD likeD eqD at *
  simp only [D.py, pys]
  rw [PySem.W.dataLt_tuple]
  by_cases e : PyData.eqv x.py y.py = true
  · rw [if_pos e, PySem.W.dataLt_all_yes h e, PySem.W.dataLt_tuple]
  · rw [if_neg e, PySem.W.dataLt_all_no h (by simpa using e)]
theorem ltD_nil : ltD (.tup []) (.tup []) = false := by
  unfold ltD
  simp only [D.py, pys]
  rw [PySem.W.dataLt_tuple]
  simp [PySem.W.keyToksAll, PyProof.Rows.lexLt]
  rfl
theorem like_int (a b : Int) : likeD (.int a) (.int b) = true := by simp only [likeD, D.py, PySem.W.alike]
theorem like_str (a b : Str) : likeD (.str a) (.str b) = true := by simp only [likeD, D.py, PySem.W.alike]
theorem like_tup (xs ys : List D) : likeD (.tup xs) (.tup ys) = PySem.W.alikeAll (pys xs) (pys ys) := by simp only [likeD, D.py, PySem.W.alike]
theorem likeA_cons (x y : D) (xs ys : List D) : PySem.W.alikeAll (pys (x :: xs)) (pys (y :: ys)) = (likeD x y && PySem.W.alikeAll (pys xs) (pys ys)) := by simp only [likeD, pys, PySem.W.alikeAll]
theorem likeA_nil (ys : List D) : PySem.W.alikeAll (pys []) (pys ys) = true := by simp only [pys, PySem.W.alikeAll]
theorem fit_int (a : Int) : (D.int a).fit = true := by simp [D.fit, D.plain, D.dep, D.py, PyData.depth]
theorem fit_bl (a : Bool) : (D.bl a).fit = true := by simp [D.fit, D.plain, D.dep, D.py, PyData.depth]
theorem fit_non : D.non.fit = true := by simp [D.fit, D.plain, D.dep, D.py, PyData.depth]
theorem fit_str (a : Str) : (D.str a).fit = PyData.strOk a := by simp [D.fit, D.plain, D.dep, D.py, PyData.depth]
theorem stlt (a b c d : Int) : ltD (.tup [.int a, .int b]) (.tup [.int c, .int d]) = decide (a < c ∨ (a = c ∧ b < d)) := by
  rw [ltD_cons _ _ _ _ (like_int a c), ltD_cons _ _ _ _ (like_int b d), eqD_int, eqD_int, ltD_int, ltD_int, ltD_nil]
  by_cases h : a = c <;> by_cases h2 : b = d <;> simp [h, h2]
end Z

set_option Elab.async false
set_option linter.all false
set_option maxRecDepth 100000
set_option maxHeartbeats 4000000
namespace Z
open PySem PySem.Spec PyProof.Rows L2
/-! # the same, step by step: what comes behind a step stands where simp does not look -/
class Kn (α β : Type) where
  f : α → β
def bnd {α β : Type} (a : Option α) [k : Kn α (Option β)] : Option β := a.bind k.f
def mp {α β : Type} (a : Option α) [k : Kn α β] : Option β := a.map k.f
@[simp] theorem bnd_some {α β : Type} (x : α) (f : α → Option β) : @bnd α β (some x) ⟨f⟩ = f x := rfl
@[simp] theorem bnd_none {α β : Type} (f : α → Option β) : @bnd α β none ⟨f⟩ = none := rfl
@[simp] theorem mp_some {α β : Type} (x : α) (f : α → β) : @mp α β (some x) ⟨f⟩ = some (f x) := rfl
@[simp] theorem mp_none {α β : Type} (f : α → β) : @mp α β none ⟨f⟩ = none := rfl
@[simp] theorem x_evE_var {G : Fns} {i} {ρ : Env'} {S : Store} : evE G (.var i) ρ S = match ρ[i]? with
    | some (.fz d) => some (d, S)
    | _ => none := by
  rw [evE]; try rfl
@[simp] theorem x_evE_cst {G : Fns} {c} {ρ : Env'} {S : Store} : evE G (.cst c) ρ S = some (c.d, S) := by
  rw [evE]; try rfl
@[simp] theorem x_evE_glb {G : Fns} {w1 g} {ρ : Env'} {S : Store} : evE G (.glb w1 g) ρ S = some (g.d, S) := by
  rw [evE]; try rfl
@[simp] theorem x_evE_bin {G : Fns} {o a b} {ρ : Env'} {S : Store} : evE G (.bin o a b) ρ S = bnd (hOf a ρ S (evE G a ρ S)) (k := ⟨fun x => bnd (hOf b ρ x.2 (evE G b ρ x.2)) (k := ⟨fun y =>
      bnd (cont ρ y.2 x.1) (k := ⟨fun u => bnd (cont ρ y.2 y.1) (k := ⟨fun v => mp (binD o u v) (k := ⟨fun d => (d, y.2)⟩)⟩)⟩)⟩)⟩) := by
  rw [evE]; try rfl
@[simp] theorem x_evE_neg {G : Fns} {a} {ρ : Env'} {S : Store} : evE G (.neg a) ρ S = bnd (evE G a ρ S) (k := ⟨fun x => mp (intOf x.1) (k := ⟨fun i => (.int (-i), x.2)⟩)⟩) := by
  rw [evE]; try rfl
@[simp] theorem x_evE_not {G : Fns} {a} {ρ : Env'} {S : Store} : evE G (.not a) ρ S = bnd (evE G a ρ S) (k := ⟨fun x => mp (blOf x.1) (k := ⟨fun b => (.bl (!b), x.2)⟩)⟩) := by
  rw [evE]; try rfl
@[simp] theorem x_evE_and {G : Fns} {a b} {ρ : Env'} {S : Store} : evE G (.and a b) ρ S = bnd (evE G a ρ S) (k := ⟨fun x => bnd (blOf x.1) (k := ⟨fun c => if c then evE G b ρ x.2 else some (.bl false, x.2)⟩)⟩) := by
  rw [evE]; try rfl
@[simp] theorem x_evE_or {G : Fns} {a b} {ρ : Env'} {S : Store} : evE G (.or a b) ρ S = bnd (evE G a ρ S) (k := ⟨fun x => bnd (blOf x.1) (k := ⟨fun c => if c then some (.bl true, x.2) else evE G b ρ x.2⟩)⟩) := by
  rw [evE]; try rfl
@[simp] theorem x_evE_ife {G : Fns} {c a b} {ρ : Env'} {S : Store} : evE G (.ife c a b) ρ S = bnd (evE G c ρ S) (k := ⟨fun x => bnd (blOf x.1) (k := ⟨fun c => if c then evE G a ρ x.2 else evE G b ρ x.2⟩)⟩) := by
  rw [evE]; try rfl
@[simp] theorem x_evE_cmp {G : Fns} {o a b} {ρ : Env'} {S : Store} : evE G (.cmp o a b) ρ S = bnd (hOf a ρ S (evE G a ρ S)) (k := ⟨fun x => bnd (hOf b ρ x.2 (evE G b ρ x.2)) (k := ⟨fun y =>
      bnd (cont ρ y.2 x.1) (k := ⟨fun u => bnd (cont ρ y.2 y.1) (k := ⟨fun v => mp (cmpD o u v) (k := ⟨fun c => (.bl c, y.2)⟩)⟩)⟩)⟩)⟩) := by
  rw [evE]; try rfl
@[simp] theorem x_evE_chn {G : Fns} {o o' a b c} {ρ : Env'} {S : Store} : evE G (.chn o o' a b c) ρ S = bnd (hOf a ρ S (evE G a ρ S)) (k := ⟨fun x => bnd (hOf b ρ x.2 (evE G b ρ x.2)) (k := ⟨fun y =>
      bnd (cont ρ y.2 x.1) (k := ⟨fun u => bnd (cont ρ y.2 y.1) (k := ⟨fun v => bnd (cmpD o u v) (k := ⟨fun r =>
        if r then bnd (hOf c ρ y.2 (evE G c ρ y.2)) (k := ⟨fun z => bnd (cont ρ z.2 y.1) (k := ⟨fun v' => bnd (cont ρ z.2 z.1) (k := ⟨fun w => mp (cmpD o' v' w) (k := ⟨fun c => (.bl c, z.2)⟩)⟩)⟩)⟩) else some (.bl false, y.2)⟩)⟩)⟩)⟩)⟩) := by
  rw [evE]; try rfl
@[simp] theorem x_evE_iso {G : Fns} {n a b} {ρ : Env'} {S : Store} : evE G (.iso n a b) ρ S = bnd (evE G a ρ S) (k := ⟨fun x => bnd (evE G b ρ x.2) (k := ⟨fun y => mp (isoD x.1 n y.1) (k := ⟨fun d => (d, y.2)⟩)⟩)⟩) := by
  rw [evE]; try rfl
@[simp] theorem x_evE_tup {G : Fns} {as} {ρ : Env'} {S : Store} : evE G (.tup as) ρ S = bnd (evA G as ρ S) (k := ⟨fun x => if x.1.length ≤ sizeLine then some (.tup x.1, x.2) else none⟩) := by
  rw [evE]; try rfl
@[simp] theorem x_evE_list {G : Fns} {as} {ρ : Env'} {S : Store} : evE G (.list as) ρ S = bnd (evA G as ρ S) (k := ⟨fun x => if x.1.length ≤ sizeLine then some (.lst x.1, x.2) else none⟩) := by
  rw [evE]; try rfl
@[simp] theorem x_evE_dnew {G : Fns} {t} {ρ : Env'} {S : Store} : evE G (.dnew t) ρ S = some (if t then .dT [] else .dK [], S) := by
  rw [evE]; try rfl
@[simp] theorem x_evE_disp {G : Fns} {ks vs} {ρ : Env'} {S : Store} : evE G (.disp ks vs) ρ S = bnd (evA G ks ρ S) (k := ⟨fun x => bnd (evA G vs ρ x.2) (k := ⟨fun y => bnd (dsp x.1 y.1) (k := ⟨fun es =>
      if es.length ≤ 15 then some (.dK (es.foldl (fun acc e => dput acc e.1 e.2) []), y.2) else none⟩)⟩)⟩) := by
  rw [evE]; try rfl
@[simp] theorem x_evE_idx {G : Fns} {a b} {ρ : Env'} {S : Store} : evE G (.idx a b) ρ S = bnd (hOf a ρ S (evE G a ρ S)) (k := ⟨fun x => bnd (evE G b ρ x.2) (k := ⟨fun y =>
      bnd (cont ρ y.2 x.1) (k := ⟨fun u => mp (idxD u y.1) (k := ⟨fun d => (d, y.2)⟩)⟩)⟩)⟩) := by
  rw [evE]; try rfl
@[simp] theorem x_evE_sl {G : Fns} {a lo hi} {ρ : Env'} {S : Store} : evE G (.sl a lo hi) ρ S = bnd (hOf a ρ S (evE G a ρ S)) (k := ⟨fun x => bnd (evA G lo ρ x.2) (k := ⟨fun y => bnd (evA G hi ρ y.2) (k := ⟨fun z =>
      bnd (cont ρ z.2 x.1) (k := ⟨fun u => bnd (ixO y.1) (k := ⟨fun lo => bnd (ixO z.1) (k := ⟨fun hi => mp (slD u lo hi) (k := ⟨fun d => (d, z.2)⟩)⟩)⟩)⟩)⟩)⟩)⟩) := by
  rw [evE]; try rfl
@[simp] theorem x_evE_rev {G : Fns} {a} {ρ : Env'} {S : Store} : evE G (.rev a) ρ S = bnd (hOf a ρ S (evE G a ρ S)) (k := ⟨fun x => bnd (cont ρ x.2 x.1) (k := ⟨fun u => match u with
      | .lst xs => some (.lst xs.reverse, x.2)
      | _ => none⟩)⟩) := by
  rw [evE]; try rfl
@[simp] theorem x_evE_fld {G : Fns} {a f} {ρ : Env'} {S : Store} : evE G (.fld a f) ρ S = bnd (evE G a ρ S) (k := ⟨fun x => match x.1 with
      | .ref n => (match x.2[n]? with
        | some (.ins C fs) => if G.fld C f then mp (fs.lookup f) (k := ⟨fun d => (d, x.2)⟩) else none
        | _ => none)
      | _ => none⟩) := by
  rw [evE]; try rfl
@[simp] theorem x_evE_call {G : Fns} {f as} {ρ : Env'} {S : Store} : evE G (.call f as) ρ S = bnd (evA G as ρ S) (k := ⟨fun x => G.fn (f, none) x.1 x.2⟩) := by
  rw [evE]; try rfl
@[simp] theorem x_evE_mk {G : Fns} {as} {ρ : Env'} {S : Store} : evE G (.mk C as) ρ S = bnd (evA G as ρ S) (k := ⟨fun x => bnd (G.fn (C, some "__init__") (.ref x.2.length :: x.1) (x.2 ++ [.ins C []])) (k := ⟨fun y => match y.1 with
      | .non => some (.ref x.2.length, y.2)
      | _ => none⟩)⟩) := by
  rw [evE]; try rfl
@[simp] theorem x_evE_meth {G : Fns} {o m as} {ρ : Env'} {S : Store} : evE G (.meth o m as) ρ S = bnd (evE G o ρ S) (k := ⟨fun x => match x.1 with
      | .ref n => (match x.2[n]? with
        | some (.ins C fs) => if (fs.lookup m).isNone then bnd (evA G as ρ x.2) (k := ⟨fun y => G.fn (C, some m) (.ref n :: y.1) y.2⟩) else none
        | _ => none)
      | _ => none⟩) := by
  rw [evE]; try rfl
@[simp] theorem x_evE_blt {G : Fns} {b as} {ρ : Env'} {S : Store} : evE G (.blt b as) ρ S = bnd (evH G as ρ S) (k := ⟨fun x => bnd (x.1.mapM (cont ρ x.2)) (k := ⟨fun ds => mp (bltD b ds) (k := ⟨fun d => (d, x.2)⟩)⟩)⟩) := by
  rw [evE]; try rfl
@[simp] theorem x_evE_get {G : Fns} {o k} {ρ : Env'} {S : Store} : evE G (.get o k) ρ S = bnd (hOf o ρ S (evE G o ρ S)) (k := ⟨fun x => if isDct (cont ρ x.2 x.1) then bnd (evE G k ρ x.2) (k := ⟨fun y =>
      bnd (cont ρ y.2 x.1) (k := ⟨fun u => mp (dget u y.1) (k := ⟨fun r => (r.getD .non, y.2)⟩)⟩)⟩) else none⟩) := by
  rw [evE]; try rfl
@[simp] theorem x_evE_getd {G : Fns} {o k d} {ρ : Env'} {S : Store} : evE G (.getd o k d) ρ S = bnd (hOf o ρ S (evE G o ρ S)) (k := ⟨fun x => if isDct (cont ρ x.2 x.1) then bnd (evE G k ρ x.2) (k := ⟨fun y => bnd (evE G d ρ y.2) (k := ⟨fun z =>
      bnd (cont ρ z.2 x.1) (k := ⟨fun u => mp (dget u y.1) (k := ⟨fun r => (r.getD z.1, z.2)⟩)⟩)⟩)⟩) else none⟩) := by
  rw [evE]; try rfl
@[simp] theorem x_evE_mref {G : Fns} {e} {ρ : Env'} {S : Store} : evE G (.mref e) ρ S = bnd (evE G e ρ S) (k := ⟨fun x => newRef x.2 x.1⟩) := by
  rw [evE]; try rfl
@[simp] theorem x_evE_lrng {G : Fns} {a b} {ρ : Env'} {S : Store} : evE G (.lrng a b) ρ S = bnd (evE G a ρ S) (k := ⟨fun x => bnd (evE G b ρ x.2) (k := ⟨fun y => bnd (intOf x.1) (k := ⟨fun i => bnd (intOf y.1) (k := ⟨fun j => if smallI i && (smallI j && decide ((j - i).toNat ≤ 1000000)) then some (.lst (rngD i (j - i).toNat), y.2) else none⟩)⟩)⟩)⟩) := by
  rw [evE]; try rfl
@[simp] theorem x_evE_dcst {G : Fns} {kvs} {ρ : Env'} {S : Store} : evE G (.dcst kvs) ρ S = bnd (dsp (kvs.map fun q => q.1.d) (kvs.map fun q => q.2.d)) (k := ⟨fun es => if es.length ≤ 15 ∧ es ≠ [] then some (.dK (es.foldl (fun acc e => dput acc e.1 e.2) []), S) else none⟩) := by
  rw [evE]; try rfl
@[simp] theorem x_evA_nil {G : Fns} {ρ : Env'} {S : Store} : evA G (.nil) ρ S = some ([], S) := by
  rw [evA]; try rfl
@[simp] theorem x_evA_cons {G : Fns} {e as} {ρ : Env'} {S : Store} : evA G (.cons e as) ρ S = bnd (evE G e ρ S) (k := ⟨fun x => mp (evA G as ρ x.2) (k := ⟨fun y => (x.1 :: y.1, y.2)⟩)⟩) := by
  rw [evA]; try rfl
@[simp] theorem x_evH_nil {G : Fns} {ρ : Env'} {S : Store} : evH G (.nil) ρ S = some ([], S) := by
  rw [evH]; try rfl
@[simp] theorem x_evH_cons {G : Fns} {e as} {ρ : Env'} {S : Store} : evH G (.cons e as) ρ S = bnd (hOf e ρ S (evE G e ρ S)) (k := ⟨fun x => mp (evH G as ρ x.2) (k := ⟨fun y => (x.1 :: y.1, y.2)⟩)⟩) := by
  rw [evH]; try rfl
@[simp] theorem x_evI_seq {G : Fns} {e} {ρ : Env'} {S : Store} : evI G (.seq e) ρ S = bnd (hOf e ρ S (evE G e ρ S)) (k := ⟨fun x => bnd (cont ρ x.2 x.1) (k := ⟨fun u => mp (itemsIn u) (k := ⟨fun xs => (x.1, xs, x.2)⟩)⟩)⟩) := by
  rw [evI]; try rfl
@[simp] theorem x_evI_rng {G : Fns} {a} {ρ : Env'} {S : Store} : evI G (.rng a) ρ S = bnd (evE G a ρ S) (k := ⟨fun x => bnd (intOf x.1) (k := ⟨fun j => if smallI j then some (.val .non, rngD 0 j.toNat, x.2) else none⟩)⟩) := by
  rw [evI]; try rfl
@[simp] theorem x_evI_rng2 {G : Fns} {a b} {ρ : Env'} {S : Store} : evI G (.rng2 a b) ρ S = bnd (evE G a ρ S) (k := ⟨fun x => bnd (evE G b ρ x.2) (k := ⟨fun y => bnd (intOf x.1) (k := ⟨fun i => bnd (intOf y.1) (k := ⟨fun j => if smallI i && smallI j then some (.val .non, rngD i (j - i).toNat, y.2) else none⟩)⟩)⟩)⟩) := by
  rw [evI]; try rfl
@[simp] theorem x_evI_items {G : Fns} {e} {ρ : Env'} {S : Store} : evI G (.items e) ρ S = bnd (hOf e ρ S (evE G e ρ S)) (k := ⟨fun x => bnd (cont ρ x.2 x.1) (k := ⟨fun u => mp (itemsOf u) (k := ⟨fun xs => (x.1, xs, x.2)⟩)⟩)⟩) := by
  rw [evI]; try rfl
@[simp] theorem x_evS_asg {G : Fns} {t e} {ρ : Env'} {S : Store} : evS G (.asg t e) ρ S = bnd (evE G e ρ S) (k := ⟨fun x => mp (bindT t x.1 ρ) (k := ⟨fun ρ' => .nxt ρ' x.2⟩)⟩) := by
  rw [evS]; try rfl
@[simp] theorem x_evS_own {G : Fns} {i e} {ρ : Env'} {S : Store} : evS G (.own i e) ρ S = if isFresh e then bnd (evE G e ρ S) (k := ⟨fun x => match x.1 with
      | .lst xs => some (.nxt (ρ.set i (.own (.lst xs))) x.2)
      | .dK xs => some (.nxt (ρ.set i (.own (.dK xs))) x.2)
      | .dT xs => some (.nxt (ρ.set i (.own (.dT xs))) x.2)
      | _ => none⟩) else none := by
  rw [evS]; try rfl
@[simp] theorem x_evS_par {G : Fns} {is es} {ρ : Env'} {S : Store} : evS G (.par is es) ρ S = bnd (evA G es ρ S) (k := ⟨fun x => if x.1.length = is.length then some (.nxt ((is.zip x.1).foldl (fun ρ p => ρ.set p.1 (.fz p.2)) ρ) x.2) else none⟩) := by
  rw [evS]; try rfl
@[simp] theorem x_evS_setf {G : Fns} {o f e} {ρ : Env'} {S : Store} : evS G (.setf o f e) ρ S = bnd (evE G e ρ S) (k := ⟨fun x => bnd (evE G o ρ x.2) (k := ⟨fun y => match y.1 with
      | .ref n => mp (setF G y.2 n f x.1) (k := ⟨fun S' => .nxt ρ S'⟩)
      | _ => none⟩)⟩) := by
  rw [evS]; try rfl
@[simp] theorem x_evS_seti {G : Fns} {o k e} {ρ : Env'} {S : Store} : evS G (.seti o k e) ρ S = bnd (evE G e ρ S) (k := ⟨fun x => bnd (hOf o ρ x.2 (evE G o ρ x.2)) (k := ⟨fun y => bnd (evE G k ρ y.2) (k := ⟨fun z =>
      bnd (cont ρ z.2 y.1) (k := ⟨fun u => bnd (setItem' u z.1 x.1) (k := ⟨fun d => mp (putC ρ z.2 y.1 d) (k := ⟨fun q => .nxt q.1 q.2⟩)⟩)⟩)⟩)⟩)⟩) := by
  rw [evS]; try rfl
@[simp] theorem x_evS_app {G : Fns} {o e} {ρ : Env'} {S : Store} : evS G (.app o e) ρ S = bnd (hOf o ρ S (evE G o ρ S)) (k := ⟨fun x => if isLst (cont ρ x.2 x.1) then bnd (evE G e ρ x.2) (k := ⟨fun y => bnd (cont ρ y.2 x.1) (k := ⟨fun u => match u with
      | .lst xs => if xs.length < sizeLine then mp (putC ρ y.2 x.1 (.lst (xs ++ [y.1]))) (k := ⟨fun q => .nxt q.1 q.2⟩) else none
      | _ => none⟩)⟩) else none⟩) := by
  rw [evS]; try rfl
@[simp] theorem x_evS_pop {G : Fns} {t o as} {ρ : Env'} {S : Store} : evS G (.pop t o as) ρ S = bnd (hOf o ρ S (evE G o ρ S)) (k := ⟨fun x => bnd (evA G as ρ x.2) (k := ⟨fun y => if isLst (cont ρ x.2 x.1) = isLst (cont ρ y.2 x.1) ∧ isDct (cont ρ x.2 x.1) = isDct (cont ρ y.2 x.1) then bnd (cont ρ y.2 x.1) (k := ⟨fun u => bnd (popD u y.1) (k := ⟨fun r =>
      bnd (putC ρ y.2 x.1 r.2) (k := ⟨fun q => match t with
      | none => some (.nxt q.1 q.2)
      | some t => mp (bindT t r.1 q.1) (k := ⟨fun ρ' => .nxt ρ' q.2⟩)⟩)⟩)⟩) else none⟩)⟩) := by
  rw [evS]; try rfl
@[simp] theorem x_evS_expr {G : Fns} {e} {ρ : Env'} {S : Store} : evS G (.expr e) ρ S = mp (evE G e ρ S) (k := ⟨fun x => .nxt ρ x.2⟩) := by
  rw [evS]; try rfl
@[simp] theorem x_evS_aug {G : Fns} {i o e} {ρ : Env'} {S : Store} : evS G (.aug i o e) ρ S = bnd (evE G e ρ S) (k := ⟨fun x => match ρ[i]? with
      | some (.fz u) => (match u, x.1 with
        | .int a, .int b => (match o with
          | .Add => some (.nxt (ρ.set i (.fz (.int (a + b)))) x.2)
          | .Sub => some (.nxt (ρ.set i (.fz (.int (a - b)))) x.2)
          | _ => none)
        | _, _ => none)
      | _ => none⟩) := by
  rw [evS]; try rfl
@[simp] theorem x_evS_ife {G : Fns} {c a b} {ρ : Env'} {S : Store} : evS G (.ife c a b) ρ S = bnd (evE G c ρ S) (k := ⟨fun x => bnd (blOf x.1) (k := ⟨fun k => if k then evSs G a ρ x.2 else evSs G b ρ x.2⟩)⟩) := by
  rw [evS]; try rfl
theorem x_evS_for_ {G : Fns} {t it b} {ρ : Env'} {S : Store} : evS G (.for_ t it b) ρ S = bnd (evI G it ρ S) (k := ⟨fun w => if noSlot w.1 then bnd (lockS ρ w.2.2 w.1) (k := ⟨fun l =>
      bnd (forGo (fun S' ρ' => cont ρ' S' w.1 = cont ρ l.1 w.1) (fun d ρ' S' => bnd (bindT t d ρ') (k := ⟨fun ρ2 => evSs G b ρ2 S'⟩)) w.2.1 ρ l.1) (k := ⟨fun o => o.after l.2⟩)⟩) else none⟩) := by
  rw [evS]; try rfl
theorem x_evS_while_ {G : Fns} {c b} {ρ : Env'} {S : Store} : evS G (.while_ c b) ρ S = whGo (fun ρ' S' => bnd (evE G c ρ' S') (k := ⟨fun x => mp (blOf x.1) (k := ⟨fun k => (k, x.2)⟩)⟩)) (fun ρ' S' => evSs G b ρ' S') whMost ρ S := by
  rw [evS]; try rfl
@[simp] theorem x_evS_ret {G : Fns} {e} {ρ : Env'} {S : Store} : evS G (.ret e) ρ S = mp (evE G e ρ S) (k := ⟨fun x => .ret x.1 x.2⟩) := by
  rw [evS]; try rfl
@[simp] theorem x_evS_retN {G : Fns} {ρ : Env'} {S : Store} : evS G (.retN) ρ S = some (.ret .non S) := by
  rw [evS]; try rfl
@[simp] theorem x_evS_brk {G : Fns} {ρ : Env'} {S : Store} : evS G (.brk) ρ S = some (.brk ρ S) := by
  rw [evS]; try rfl
@[simp] theorem x_evS_cnt {G : Fns} {ρ : Env'} {S : Store} : evS G (.cnt) ρ S = some (.cnt ρ S) := by
  rw [evS]; try rfl
@[simp] theorem x_evS_pass {G : Fns} {ρ : Env'} {S : Store} : evS G (.pass) ρ S = some (.nxt ρ S) := by
  rw [evS]; try rfl
@[simp] theorem x_evSs_nil {G : Fns} {ρ : Env'} {S : Store} : evSs G (.nil) ρ S = some (.nxt ρ S) := by
  rw [evSs]; try rfl
@[simp] theorem x_evSs_cons {G : Fns} {s r} {ρ : Env'} {S : Store} : evSs G (.cons s r) ρ S = bnd (evS G s ρ S) (k := ⟨fun o => match o with
    | .nxt ρ' S' => evSs G r ρ' S'
    | .ret d S' => some (.ret d S')
    | .brk ρ' S' => some (.brk ρ' S')
    | .cnt ρ' S' => some (.cnt ρ' S')⟩) := by
  rw [evSs]; try rfl
@[simp] theorem x_evSs_frz {G : Fns} {i r} {ρ : Env'} {S : Store} : evSs G (.frz i r) ρ S = match ρ[i]? with
    | some (.own d) => evSs G r (ρ.set i (.fz d)) S
    | _ => none := by
  rw [evSs]; try rfl
end Z

set_option Elab.async false
set_option linter.all false
set_option maxRecDepth 100000
set_option maxHeartbeats 4000000
namespace Z
open PySem PySem.Spec PyProof.Rows L2
theorem fit_st (a b : Int) : (D.tup [.int a, .int b]).fit = true := by
  simp [D.fit, D.plain, plains, D.dep, D.py, pys, PyData.depth, PyData.depthAll]
theorem like_st (a b c d : Int) : likeD (.tup [.int a, .int b]) (.tup [.int c, .int d]) = true := by
  simp [like_tup, likeA_cons, likeA_nil, like_int]
theorem okAll_st (a b c d : Int) : okAll [.tup [.int a, .int b], .tup [.int c, .int d]] = true := by
  simp [okAll, fits, D.fit, D.plain, plains, D.dep, D.py, pys, PyData.depth, PyData.depthAll, like_st, D.isNon]
theorem max_st (a b c d : Int) : bltD .max [.tup [.int a, .int b], .tup [.int c, .int d]] = some (if a < c ∨ (a = c ∧ b < d) then .tup [.int c, .int d] else .tup [.int a, .int b]) := by
  simp only [bltD, okAll_st, if_true, maxD, List.foldl_cons, List.foldl_nil, stlt, decide_eq_true_eq]
theorem ne_st (a b c d : Int) : cmpD .NotEq (.tup [.int a, .int b]) (.tup [.int c, .int d]) = some (!decide (a = c ∧ b = d)) := by
  simp [cmpD, okEq, fit_st, eqD_tup, eqA_cons, eqA_nil, eqD_int, Bool.decide_and]
theorem eq_st (a b c d : Int) : cmpD .Eq (.tup [.int a, .int b]) (.tup [.int c, .int d]) = some (decide (a = c ∧ b = d)) := by
  simp [cmpD, okEq, fit_st, eqD_tup, eqA_cons, eqA_nil, eqD_int, Bool.decide_and]
theorem ne_st_non (a b : Int) : cmpD .NotEq (.tup [.int a, .int b]) .non = some true := by
  simp [cmpD, okEq, fit_st, fit_non, eqD, D.py, PyData.eqv]
theorem ne_non_st (a b : Int) : cmpD .NotEq .non (.tup [.int a, .int b]) = some true := by
  simp [cmpD, okEq, fit_st, fit_non, eqD, D.py, PyData.eqv]
theorem ne_non_non : cmpD .NotEq .non .non = some false := by
  simp [cmpD, okEq, fit_non, eqD, D.py, PyData.eqv]
theorem gt_st (a b c d : Int) : cmpD .Gt (.tup [.int a, .int b]) (.tup [.int c, .int d]) = some (decide (c < a ∨ (c = a ∧ d < b))) := by
  simp [cmpD, okLt, fit_st, like_st, D.isNon, stlt]
theorem eq_ii (a b : Int) : cmpD .Eq (.int a) (.int b) = some (decide (a = b)) := by simp [cmpD, okEq, fit_int, eqD_int]
theorem ne_ii (a b : Int) : cmpD .NotEq (.int a) (.int b) = some (!decide (a = b)) := by simp [cmpD, okEq, fit_int, eqD_int]
theorem lt_ii (a b : Int) : cmpD .Lt (.int a) (.int b) = some (decide (a < b)) := by simp [cmpD, okLt, fit_int, like_int, D.isNon, ltD_int]
theorem gt_ii (a b : Int) : cmpD .Gt (.int a) (.int b) = some (decide (b < a)) := by simp [cmpD, okLt, fit_int, like_int, D.isNon, ltD_int]
theorem le_ii (a b : Int) : cmpD .LtE (.int a) (.int b) = some (decide (a ≤ b)) := by
  simp only [cmpD, okLt, fit_int, like_int, D.isNon, ltD_int, Bool.not_false, Bool.and_self, if_true, Bool.and_true]
  congr 1
  by_cases h : b < a
  · have : ¬ a ≤ b := by omega
    simp [h, this]
  · have : a ≤ b := by omega
    simp [h, this]
theorem ge_ii (a b : Int) : cmpD .GtE (.int a) (.int b) = some (decide (b ≤ a)) := by
  simp only [cmpD, okLt, fit_int, like_int, D.isNon, ltD_int, Bool.not_false, Bool.and_self, if_true, Bool.and_true]
  congr 1
  by_cases h : a < b
  · have : ¬ b ≤ a := by omega
    simp [h, this]
  · have : b ≤ a := by omega
    simp [h, this]
theorem eq_ss (a b : Str) (ha : PyData.strOk a = true) (hb : PyData.strOk b = true) : cmpD .Eq (.str a) (.str b) = some (decide (a = b)) := by simp [cmpD, okEq, fit_str, ha, hb, eqD_str]
theorem ne_ss (a b : Str) (ha : PyData.strOk a = true) (hb : PyData.strOk b = true) : cmpD .NotEq (.str a) (.str b) = some (!decide (a = b)) := by simp [cmpD, okEq, fit_str, ha, hb, eqD_str]
theorem max_ii (a b : Int) : bltD .max [.int a, .int b] = some (.int (if b > a then b else a)) := rfl
theorem len2 : (2 : Nat) ≤ sizeLine := by decide
theorem len3 : (3 : Nat) ≤ sizeLine := by decide
end Z

set_option Elab.async false
set_option linter.all false
set_option maxRecDepth 100000
set_option maxHeartbeats 4000000
namespace Z
open PySem PySem.Spec PyProof.Rows L2
/-- the draws' state: where it stands, its cells -/
structure Rnd (S : Store) (st c : Nat) (pos : Int) (cs : List Int) : Prop where
  at_ : S[st]? = some (.con (.lst [.int pos, .ref c]))
  row : S[c]? = some (.con (.lst (cs.map .int)))
  ne : st ≠ c
  pos0 : 0 ≤ pos
  len : cs ≠ []
  nn : ∀ x ∈ cs, 0 ≤ x
theorem atI_nat {α : Type} {xs : List α} {i : Nat} (h : i < xs.length) : atI xs (i : Int) = xs[i]? := by
  unfold atI ixN
  have h1 : (0 : Int) ≤ (i : Int) := by omega
  have h2 : (i : Int) < (xs.length : Int) := by omega
  rw [if_pos h1, if_pos h2]
  simp
theorem atI0 {α : Type} (x : α) (xs : List α) : atI (x :: xs) 0 = some x := by
  have := atI_nat (xs := x :: xs) (i := 0) (by simp)
  simpa using this
theorem atI1 {α : Type} (x y : α) (xs : List α) : atI (x :: y :: xs) 1 = some y := by
  have := atI_nat (xs := x :: y :: xs) (i := 1) (by simp)
  simpa using this
theorem ixN_nat {n j : Nat} (h : j < n) : ixN n (j : Int) = some j := by
  unfold ixN
  rw [if_pos (by omega), if_pos (by omega)]
  simp
theorem Rnd.set {S : Store} {st c : Nat} {pos : Int} {cs : List Int} (R : Rnd S st c pos cs) (j : Nat) (x : Int) (hx : 0 ≤ x) : Rnd (S.set c (.con (.lst ((cs.set j x).map .int)))) st c pos (cs.set j x) where
  at_ := by rw [List.getElem?_set_ne R.ne.symm]; exact R.at_
  row := by
    have hl : c < S.length := (List.getElem?_eq_some_iff.mp R.row).1
    rw [List.getElem?_set_self hl]
  ne := R.ne
  pos0 := R.pos0
  len := by simp [R.len]
  nn := fun y hy => by
    rcases List.mem_or_eq_of_mem_set hy with h | h
    · exact R.nn y h
    · rw [h]; exact hx
theorem Rnd.next {S : Store} {st c : Nat} {pos : Int} {cs : List Int} (R : Rnd S st c pos cs) : Rnd (S.set st (.con (.lst [.int (pos + 1), .ref c]))) st c (pos + 1) cs where
  at_ := by
    have hl : st < S.length := (List.getElem?_eq_some_iff.mp R.at_).1
    rw [List.getElem?_set_self hl]
  row := by rw [List.getElem?_set_ne R.ne]; exact R.row
  ne := R.ne
  pos0 := by have := R.pos0; omega
  len := R.len
  nn := R.nn
/-- what a draw may do -/
def Drawn (S : Store) (st c : Nat) (most : Int) (v : Int) (S' : Store) : Prop := (0 < most → 0 ≤ v ∧ v < most) ∧ (¬ 0 < most → v = 0) ∧ (∃ pos cs, Rnd S' st c pos cs) ∧ S'.length = S.length ∧ ∀ k, k ≠ st → k ≠ c → S'[k]? = S[k]?
def bTake : Sms :=
      (.cons (.ife (.cmp .Lt (.var 1) (.cst (.int 1))) (.cons (.ret (.cst (.int 0)))
      .nil) .nil)
      (.cons (.asg (.nm 2) (.idx (.var 0) (.cst (.int 1))))
      (.cons (.asg (.nm 3) (.bin .Mod (.idx (.var 0) (.cst (.int 0))) (.blt .len (.cons (.var 2) .nil))))
      (.cons (.asg (.nm 4) (.idx (.var 2) (.var 3)))
      (.cons (.ife (.cmp .GtE (.var 4) (.cst (.int 1000000000000000000))) (.cons (.seti (.var 2) (.var 3) (.bin .FloorDiv (.var 4) (.var 1)))
      (.cons (.ret (.bin .Mod (.var 4) (.var 1)))
      .nil)) .nil)
      (.cons (.seti (.var 0) (.cst (.int 0)) (.bin .Add (.idx (.var 0) (.cst (.int 0))) (.cst (.int 1))))
      (.cons (.asg (.nm 5) (.bin .Mod (.blt .int (.cons (.bin .Add (.bin .Mult (.var 4) (.cst (.int 48271))) (.bin .Mult (.idx (.var 0) (.cst (.int 0))) (.cst (.int 69621)))) .nil)) (.cst (.int 2147483647))))
      (.cons (.asg (.nm 5) (.bin .Mod (.blt .int (.cons (.bin .Add (.bin .Mult (.var 5) (.cst (.int 16807))) (.bin .Mult (.idx (.var 0) (.cst (.int 0))) (.cst (.int 7919)))) .nil)) (.cst (.int 1000000007))))
      (.cons (.ret (.bin .Mod (.bin .FloorDiv (.var 5) (.cst (.int 7))) (.var 1)))
      .nil)))))))))
def bState : Sms :=
      (.cons (.asg (.nm 1) (.mref (.comp (.nm 2) (.seq (.sl (.var 0) .nil (.cons (.cst (.int 63)) .nil))) .nil (.blt .abs (.cons (.var 2) .nil)))))
      (.cons (.ife (.cmp .Eq (.blt .len (.cons (.var 1) .nil)) (.cst (.int 0))) (.cons (.asg (.nm 1) (.mref (.list (.cons (.cst (.int 0)) .nil))))
      .nil) .nil)
      (.cons (.ret (.mref (.list (.cons (.cst (.int 0)) (.cons (.var 1) .nil)))))
      .nil)))
theorem take1 (G : Fns) {S : Store} {st c : Nat} {pos : Int} {cs : List Int} (R : Rnd S st c pos cs) (most : Int) (hm2 : most < 1073741824) :
    ∃ v S', evSs G bTake [.fz (.ref st), .fz (.int most), .un, .un, .un, .un] S = some (.ret (.int v) S') ∧ Drawn S st c most v S' := by
  have R' := R
  obtain ⟨h1, h2, h3, h4, h5, h6⟩ := R
  by_cases hm : 0 < most
  case neg =>
    have hlt : most < 1 := by omega
    refine ⟨0, S, ?_, fun h => absurd h hm, fun _ => rfl, ⟨pos, cs, R'⟩, rfl, fun _ _ _ => rfl⟩
    simp [bTake, hOf, cont, cmpD, okLt, fit_int, like_int, ltD_int, D.isNon, blOf, Cst.d, hlt]
  have hlt : ¬ most < 1 := by omega
  have hl : (0 : Int) < (cs.length : Int) := by
    have : 0 < cs.length := List.length_pos_iff.mpr h5
    omega
  obtain ⟨j, hj, hj2⟩ : ∃ j : Nat, pos % (cs.length : Int) = (j : Int) ∧ j < cs.length := ⟨(pos % (cs.length : Int)).toNat, by
    have := Int.emod_nonneg pos (by omega : (cs.length : Int) ≠ 0)
    omega, by
    have := Int.emod_nonneg pos (by omega : (cs.length : Int) ≠ 0)
    have := Int.emod_lt_of_pos pos hl
    omega⟩
  have hat : atI (cs.map D.int) (j : Int) = some (.int cs[j]) := by
    rw [atI_nat (by simpa using hj2)]
    simp [hj2]
  have hlp : 0 < cs.length := by omega
  have hdiv : ∀ (x : Int), CDiv x most := fun x => ⟨hm, hm2⟩
  have hix := ixN_nat hj2
  have hcj : 0 ≤ cs[j] := h6 _ (List.getElem_mem hj2)
  by_cases hbig : 1000000000000000000 ≤ cs[j]
  · have hb' : ¬ cs[j] < 1000000000000000000 := by omega
    refine ⟨cs[j] % most, S.set c (.con (.lst ((cs.set j (cs[j] / most)).map .int))), ?_, fun _ => ⟨Int.emod_nonneg _ (by omega), Int.emod_lt_of_pos _ hm⟩, fun h => absurd hm h, ⟨pos, _, R'.set j _ (Int.ediv_nonneg hcj (by omega))⟩, by simp, fun k _ hk => List.getElem?_set_ne hk.symm⟩
    simp [bTake, bindT, hOf, cont, cmpD, okLt, okEq, fit_int, like_int, ltD_int, D.isNon, blOf, binD, h1, h2, idxD, bltD, lenD, hm, Cst.d, hlt, atI0, atI1, hlp, hj, hat, hb', hdiv, setItem', hix, putC, setC, List.map_set]
  · have hb' : cs[j] < 1000000000000000000 := by omega
    have hx0 : ixN 2 0 = some 0 := by decide
    have hS : ∀ x : Cell, (List.set S st x)[st]? = some x := fun x => List.getElem?_set_self (List.getElem?_eq_some_iff.mp h1).1
    have hm1 : ∀ a b c d : Int, CMul a 48271 := fun a b c d => .inr ⟨by decide, by decide⟩
    have hm2' : ∀ a : Int, CMul a 48271 ∧ CMul a 69621 ∧ CMul a 16807 ∧ CMul a 7919 := fun a => ⟨.inr ⟨by decide, by decide⟩, .inr ⟨by decide, by decide⟩, .inr ⟨by decide, by decide⟩, .inr ⟨by decide, by decide⟩⟩
    have hd7 : ∀ a : Int, CDiv a 7 := fun a => ⟨by decide, by decide⟩
    refine ⟨(((cs[j] * 48271 + (pos + 1) * 69621) % 2147483647) * 16807 + (pos + 1) * 7919) % 1000000007 / 7 % most, S.set st (.con (.lst [.int (pos + 1), .ref c])), ?_, fun _ => ⟨Int.emod_nonneg _ (by omega), Int.emod_lt_of_pos _ hm⟩, fun h => absurd hm h, ⟨pos + 1, _, R'.next⟩, by simp, fun k hk _ => List.getElem?_set_ne hk.symm⟩
    simp [bTake, bindT, hOf, cont, cmpD, okLt, okEq, fit_int, like_int, ltD_int, D.isNon, blOf, binD, h1, h2, idxD, bltD, lenD, hm, Cst.d, hlt, atI0, atI1, hlp, hj, hat, hb', hdiv, setItem', hix, putC, setC, hx0, hS, hm2', hd7]
theorem run_def {T : Prog} {n : Nat} {key : Str × Option Str} {fd : Fd} (h : T.defs.lookup key = some fd) (ds : List D) (S : Store) (hl : ds.length = fd.np) : runF T (n + 1) key ds S = (evSs (Z.run T n) fd.body (ds.map Slot.fz ++ List.replicate (fd.ns - fd.np) .un) S).bind outR := by
  show (match T.defs.lookup key with
    | some fd => _
    | none => none) = _
  rw [h]
  simp only [hl, if_true]
  congr 1
theorem take_ok {T : Prog} (at_take : T.defs.lookup (("_law_take", none) : Str × Option Str) = some (⟨2, 6, bTake⟩ : Fd)) {n : Nat} {S : Store} {st c : Nat} {pos : Int} {cs : List Int} (R : Rnd S st c pos cs) (most : Int) (h : most < 1073741824) : ∃ v S', runF T (n + 1) ("_law_take", none) [.ref st, .int most] S = some (.int v, S') ∧ Drawn S st c most v S' := by
  obtain ⟨v, S', e, d⟩ := take1 (run T n) R most h
  refine ⟨v, S', ?_, d⟩
  rw [run_def at_take _ _ rfl]
  show (evSs (run T n) bTake [.fz (.ref st), .fz (.int most), .un, .un, .un, .un] S).bind _ = _
  rw [e]; rfl
theorem compGo_map {kp : Store → Prop} {f : D → Store → Option (Option D × Store)} {g : D → D} {S : Store} (hk : kp S) : ∀ xs : List D, (∀ x ∈ xs, f x S = some (some (g x), S)) → compGo kp f xs S = some (xs.map g, S)
  | [], _ => rfl
  | x :: xs, h => by
    unfold compGo
    rw [h x List.mem_cons_self]
    simp only [Option.bind_some]
    rw [if_pos hk, compGo_map hk xs fun y hy => h y (List.mem_cons_of_mem _ hy)]
    rfl
theorem cut_map (ns : List Int) (lo hi : Option Int) : ∃ ms : List Int, cutL (ns.map D.int) lo hi = ms.map D.int ∧ ms.length ≤ ns.length := by
  refine ⟨cutL ns lo hi, ?_, cutL_len _ _ _⟩
  unfold cutL
  rw [List.length_map, List.map_take, List.map_drop]
def absD : D → D
  | .int i => .int (if i < 0 then -i else i)
  | d => d
theorem state_ok {T : Prog} (at_state : T.defs.lookup (("_law_state", none) : Str × Option Str) = some (⟨1, 3, bState⟩ : Fd)) {n : Nat} {S : Store} {ns : List Int} (h : S[0]? = some (.lck (.lst (ns.map .int)))) (hl : ns.length ≤ 63) :
    ∃ st c S' cs, runF T (n + 1) ("_law_state", none) [.ref 0] S = some (.ref st, S') ∧ Rnd S' st c 0 cs ∧ S.length ≤ st ∧ S.length ≤ c ∧ ∀ k, k < S.length → S'[k]? = S[k]? := by
  obtain ⟨ms, e1, e2⟩ := cut_map ns none (some 63)
  have hsz : ms.length ≤ sizeLine := by
    have : (63 : Nat) ≤ sizeLine := by decide
    omega
  have hgo : ∀ (kp : Store → Prop) (f : D → Store → Option (Option D × Store)), kp S → (∀ x ∈ ms.map D.int, f x S = some (some (absD x), S)) → compGo kp f (ms.map D.int) S = some ((ms.map D.int).map absD, S) := fun kp f hk hf => compGo_map hk _ hf
  have hab : (ms.map D.int).map absD = (ms.map fun i => if i < 0 then -i else i).map D.int := by
    rw [List.map_map, List.map_map]; rfl
  generalize hks : (ms.map fun i => if i < 0 then -i else i) = ks at hab
  have hnn : ∀ x ∈ ks, 0 ≤ x := fun x hx => by
    rw [← hks] at hx
    obtain ⟨i, _, rfl⟩ := List.mem_map.mp hx
    split <;> omega
  have hkl : ks.length = ms.length := by rw [← hks, List.length_map]
  have a0 : ∀ c : Cell, (S ++ [c])[S.length]? = some c := fun c => by rw [List.getElem?_append_right (Nat.le_refl _)]; simp
  rw [run_def at_state [.ref 0] S rfl]
  have hc : evE (Z.run T n) (.comp (.nm 2) (.seq (.sl (.var 0) .nil (.cons (.cst (.int 63)) .nil))) .nil (.blt .abs (.cons (.var 2) .nil))) [.fz (.ref 0), .un, .un] S = some (.lst (ks.map D.int), S) := by
    rw [evE]
    have no : noOwn [.fz (.ref 0), .un, .un] (Tg.ix (.nm 2)) = true := rfl
    rw [if_pos no]
    have hi : evI (Z.run T n) (.seq (.sl (.var 0) .nil (.cons (.cst (.int 63)) .nil))) [.fz (.ref 0), .un, .un] S = some (.val (.lst (ms.map D.int)), ms.map D.int, S) := by
      simp [hOf, cont, h, Cst.d, ixO, slD, e1, itemsIn]
    rw [hi]
    simp only [Option.bind_some, lockS]
    rw [hgo _ _ (by rfl) ?_]
    · simp only [Option.bind_some, freeS, hab]
      rw [if_pos (by simp only [List.length_map, hkl]; exact hsz)]
    · intro x hx
      obtain ⟨i, _, rfl⟩ := List.mem_map.mp hx
      simp [bindT, wipeS, Tg.ix, hOf, cont, bltD, absD]
  have h1 : evS (Z.run T n) (.asg (.nm 1) (.mref (.comp (.nm 2) (.seq (.sl (.var 0) .nil (.cons (.cst (.int 63)) .nil))) .nil (.blt .abs (.cons (.var 2) .nil))))) [.fz (.ref 0), .un, .un] S = some (.nxt [.fz (.ref 0), .fz (.ref S.length), .un] (S ++ [.con (.lst (ks.map .int))])) := by
    rw [evS, evE, hc]
    simp [newRef, bindT]
  have hev : evSs (Z.run T n) bState [.fz (.ref 0), .un, .un] S = evSs (Z.run T n) (.cons (.ife (.cmp .Eq (.blt .len (.cons (.var 1) .nil)) (.cst (.int 0))) (.cons (.asg (.nm 1) (.mref (.list (.cons (.cst (.int 0)) .nil)))) .nil) .nil) (.cons (.ret (.mref (.list (.cons (.cst (.int 0)) (.cons (.var 1) .nil))))) .nil)) [.fz (.ref 0), .fz (.ref S.length), .un] (S ++ [.con (.lst (ks.map .int))]) := by
    unfold bState
    rw [evSs, h1]
    rfl
  have one1 : (1 : Nat) ≤ sizeLine := by decide
  show ∃ st c S' cs, (evSs (Z.run T n) bState [.fz (.ref 0), .un, .un] S).bind outR = _ ∧ _
  rw [hev]
  by_cases hz : ks = []
  · refine ⟨S.length + 1 + 1, S.length + 1, ((S ++ [.con (.lst (ks.map .int))]) ++ [.con (.lst [.int 0])]) ++ [.con (.lst [.int 0, .ref (S.length + 1)])], [0], ?_, ⟨?_, ?_, by omega, by omega, by simp, by simp⟩, by omega, by omega, fun k hk => ?_⟩
    · subst hz
      simp [hOf, cont, newRef, bindT, a0, bltD, lenD, eq_ii, Cst.d, blOf, outR, len2, one1]
    · rw [List.getElem?_append_right (by simp)]; simp
    · rw [List.getElem?_append_left (by simp), List.getElem?_append_right (by simp)]; simp
    · rw [List.getElem?_append_left (by simp; omega), List.getElem?_append_left (by simp; omega), List.getElem?_append_left hk]
  · have hne : ¬ ((ks.length : Int) = 0) := by
      have : 0 < ks.length := List.length_pos_iff.mpr hz
      omega
    refine ⟨S.length + 1, S.length, (S ++ [.con (.lst (ks.map .int))]) ++ [.con (.lst [.int 0, .ref S.length])], ks, ?_, ⟨?_, ?_, by omega, by omega, hz, hnn⟩, by omega, by omega, fun k hk => ?_⟩
    · simp [hOf, cont, newRef, bindT, a0, bltD, lenD, eq_ii, Cst.d, blOf, outR, len2, one1, hne, hz]
    · rw [List.getElem?_append_right (by simp)]; simp
    · rw [List.getElem?_append_left (by simp), List.getElem?_append_right (by simp)]; simp
    · rw [List.getElem?_append_left (by simp; omega), List.getElem?_append_left hk]
theorem repr_bl (b : Bool) : bltD .repr [.bl b] = some (.str (if b then "True" else "False")) := by
  have h1 : (D.bl b).fit = true := fit_bl b
  have h2 : (D.bl b).py.showable = true := by cases b <;> decide +kernel
  have h3 : (D.bl b).py.shown = (if b then "True" else "False" : Str) := by cases b <;> decide +kernel
  have h4 : (D.bl b).py.shown.length ≤ sizeLine := by cases b <;> decide +kernel
  simp only [bltD]
  rw [if_pos ⟨h1, h2, h4⟩, h3]
theorem seq1 {G : Fns} {s : Sm} {r : Sms} {ρ ρ' : Env'} {S S' : Store} (h : evS G s ρ S = some (.nxt ρ' S')) : evSs G (.cons s r) ρ S = evSs G r ρ' S' := by
  rw [evSs, h]; rfl
theorem sOk {x : Str} (h : x.cps.all (fun c => decide (c < 1114112)) = true) : ∀ c ∈ x.cps.toList, PyData.strOk ⟨#[c]⟩ = true := by
  intro c hc
  have := Array.all_eq_true_iff_forall_mem.mp h c (Array.mem_toList_iff.mp hc)
  unfold PyData.strOk
  simpa using this
/-- what a walk may end with -/
def Ends (P : Env' → Store → Prop) (B : Env' → Store → Prop) (R : D → Store → Prop) : Out → Prop
  | .nxt ρ S => P ρ S
  | .cnt ρ S => P ρ S
  | .brk ρ S => B ρ S
  | .ret d S => R d S
theorem forGo_gen {kp : Store → Env' → Prop} {f : D → Env' → Store → Option Out} {P : List D → Env' → Store → Prop} {B : Env' → Store → Prop} {R : D → Store → Prop}
    (hk : ∀ pre ρ S, P pre ρ S → kp S ρ) (hb : ∀ ρ S, B ρ S → kp S ρ) (hr : ∀ pre ρ S d S', P pre ρ S → R d S' → kp S' ρ) : ∀ (xs pre : List D), (∀ p x q, xs = p ++ x :: q → ∀ ρ S, P (pre ++ p) ρ S → ∃ o, f x ρ S = some o ∧ Ends (P (pre ++ p ++ [x])) B R o) →
    ∀ ρ S, P pre ρ S → ∃ o, forGo kp f xs ρ S = some o ∧ Ends (P (pre ++ xs)) B R o
  | [], pre, _, ρ, S, h => ⟨.nxt ρ S, rfl, by rw [List.append_nil]; exact h⟩
  | x :: xs, pre, hf, ρ, S, h => by
    obtain ⟨o, e, ho⟩ := hf [] x xs rfl ρ S (by rw [List.append_nil]; exact h)
    rw [List.append_nil] at ho
    have rest : ∀ ρ1 S1, P (pre ++ [x]) ρ1 S1 → ∃ o, forGo kp f xs ρ1 S1 = some o ∧ Ends (P (pre ++ (x :: xs))) B R o := fun ρ1 S1 h1 => by
      obtain ⟨o2, e2, h2⟩ := forGo_gen hk hb hr xs (pre ++ [x]) (fun p y q hq ρ S hp => by
        have := hf (x :: p) y q (by rw [hq]; rfl) ρ S (by simpa using hp)
        simpa using this) ρ1 S1 h1
      exact ⟨o2, e2, by simpa using h2⟩
    cases o with
    | nxt ρ1 S1 =>
      obtain ⟨o2, e2, h2⟩ := rest ρ1 S1 ho
      refine ⟨o2, ?_, h2⟩
      unfold forGo
      rw [e]
      simp only [Option.bind_some]
      rw [if_pos (hk _ _ _ ho)]
      exact e2
    | cnt ρ1 S1 =>
      obtain ⟨o2, e2, h2⟩ := rest ρ1 S1 ho
      refine ⟨o2, ?_, h2⟩
      unfold forGo
      rw [e]
      simp only [Option.bind_some]
      rw [if_pos (hk _ _ _ ho)]
      exact e2
    | brk ρ1 S1 =>
      refine ⟨.brk ρ1 S1, ?_, ho⟩
      unfold forGo
      rw [e]
      simp only [Option.bind_some]
      rw [if_pos (hb _ _ ho)]
    | ret d S1 =>
      refine ⟨.ret d S1, ?_, ho⟩
      unfold forGo
      rw [e]
      simp only [Option.bind_some]
      rw [if_pos (hr _ _ _ _ _ h ho)]
theorem contV {v : D} (hv : ∀ n, v ≠ .ref n) (ρ ρ' : Env') (S S' : Store) : cont ρ' S' (.val v) = cont ρ S (.val v) := by
  cases v <;> first | rfl | exact absurd rfl (hv _)
theorem lockV {v : D} (hv : ∀ n, v ≠ .ref n) (ρ : Env') (S : Store) : lockS ρ S (.val v) = some (S, none) := by
  cases v <;> first | rfl | exact absurd rfl (hv _)
/-- a for over what is no part of the store -/
theorem for_gen {G : Fns} {t : Tg} {it : It} {b : Sms} {ρ : Env'} {S S1 : Store} {v : D} {xs : List D} {P : List D → Env' → Store → Prop} {B : Env' → Store → Prop} {R : D → Store → Prop} (hv : ∀ n, v ≠ .ref n) (hi : evI G it ρ S = some (.val v, xs, S1)) (h0 : P [] ρ S1)
    (hf : ∀ p x q, xs = p ++ x :: q → ∀ ρ S, P p ρ S → ∃ ρ2, bindT t x ρ = some ρ2 ∧ ∃ o, evSs G b ρ2 S = some o ∧ Ends (P (p ++ [x])) B R o) : ∃ o, evS G (.for_ t it b) ρ S = some o ∧ Ends (fun ρ S => P xs ρ S ∨ B ρ S) (fun _ _ => False) R o := by
  obtain ⟨o, e, h⟩ := forGo_gen (kp := fun S' ρ' => cont ρ' S' (.val v) = cont ρ S1 (.val v)) (f := fun d ρ' S' => (bindT t d ρ').bind fun ρ2 => evSs G b ρ2 S') (P := P) (B := B) (R := R) (fun _ ρ' S' _ => contV hv _ _ _ _) (fun ρ' S' _ => contV hv _ _ _ _) (fun _ ρ' S' _ _ _ _ => contV hv _ _ _ _) xs [] (fun p x q hq ρ S hp => by
    obtain ⟨ρ2, e1, o, e2, h⟩ := hf p x q hq ρ S hp
    exact ⟨o, by rw [e1]; exact e2, by simpa using h⟩) ρ S1 h0
  rw [List.nil_append] at h
  have hev : evS G (.for_ t it b) ρ S = o.after none := by
    rw [evS, hi]
    simp only [Option.bind_some, noSlot, if_true, lockV hv]
    rw [e]
    rfl
  rw [hev]
  cases o with
  | nxt ρ S => exact ⟨_, rfl, .inl h⟩
  | cnt ρ S => exact ⟨_, rfl, .inl h⟩
  | brk ρ S => exact ⟨_, rfl, .inr h⟩
  | ret d S => exact ⟨_, rfl, h⟩
/-- the same, with neither break nor return -/
theorem for_pre {G : Fns} {t : Tg} {it : It} {b : Sms} {ρ : Env'} {S S1 : Store} {v : D} {xs : List D} {P : List D → Env' → Store → Prop} (hv : ∀ n, v ≠ .ref n) (hi : evI G it ρ S = some (.val v, xs, S1)) (h0 : P [] ρ S1)
    (hf : ∀ p x q, xs = p ++ x :: q → ∀ ρ S, P p ρ S → ∃ ρ2 ρ' S', bindT t x ρ = some ρ2 ∧ evSs G b ρ2 S = some (.nxt ρ' S') ∧ P (p ++ [x]) ρ' S') : ∃ ρ' S', evS G (.for_ t it b) ρ S = some (.nxt ρ' S') ∧ P xs ρ' S' := by
  obtain ⟨o, e, h⟩ := for_gen (B := fun _ _ => False) (R := fun _ _ => False) hv hi h0 (fun p x q hq ρ S hp => by
    obtain ⟨ρ2, ρ', S', e1, e2, h⟩ := hf p x q hq ρ S hp
    exact ⟨ρ2, e1, _, e2, h⟩)
  cases o with
  | nxt ρ S => exact ⟨_, _, e, by simpa [Ends] using h⟩
  | cnt ρ S => exact absurd e (by
      intro e
      rw [evS, hi] at e
      simp only [Option.bind_some, noSlot, if_true, lockV hv] at e
      revert e
      generalize forGo _ _ _ _ _ = z
      cases z with
      | none => simp
      | some o => cases o <;> simp [Out.after, freeS])
  | brk ρ S => exact absurd h id
  | ret d S => exact absurd h id
/-- a for of the same kind of state throughout -/
theorem for_ok {G : Fns} {t : Tg} {it : It} {b : Sms} {ρ : Env'} {S S1 : Store} {v : D} {xs : List D} {P : Env' → Store → Prop} (hv : ∀ n, v ≠ .ref n) (hi : evI G it ρ S = some (.val v, xs, S1)) (h0 : P ρ S1)
    (hf : ∀ x ∈ xs, ∀ ρ S, P ρ S → ∃ ρ2 ρ' S', bindT t x ρ = some ρ2 ∧ evSs G b ρ2 S = some (.nxt ρ' S') ∧ P ρ' S') : ∃ ρ' S', evS G (.for_ t it b) ρ S = some (.nxt ρ' S') ∧ P ρ' S' :=
  for_pre (P := fun _ => P) hv hi h0 fun p x q hq ρ S hp => hf x (by rw [hq]; simp) ρ S hp
/-- walks that make a list -/
noncomputable def stepC (G : Fns) (t : Tg) (c : Ar) (e : Ex) (ρ : Env') (d : D) (S' : Store) : Option (Option D × Store) := (bindT t d (wipeS ρ t.ix)).bind fun ρ' => match c with
        | .nil => (evE G e ρ' S').map fun r => (some r.1, r.2)
        | .cons c _ => (evE G c ρ' S').bind fun q => (blOf q.1).bind fun b => if b then (evE G e ρ' q.2).map fun r => (some r.1, r.2) else some (none, q.2)
theorem compGo_fm {kp : Store → Prop} {f : D → Store → Option (Option D × Store)} {g : D → Option D} {S : Store} (hk : kp S) : ∀ xs : List D, (∀ x ∈ xs, f x S = some (g x, S)) → compGo kp f xs S = some (xs.filterMap g, S)
  | [], _ => rfl
  | x :: xs, h => by
    unfold compGo
    rw [h x List.mem_cons_self]
    simp only [Option.bind_some]
    rw [if_pos hk, compGo_fm hk xs fun y hy => h y (List.mem_cons_of_mem _ hy)]
    cases hg : g x with
    | none => simp [hg]
    | some y => simp [hg]
theorem comp_ok {G : Fns} {t : Tg} {it : It} {c : Ar} {e : Ex} {ρ : Env'} {S S1 : Store} {v : D} {xs : List D} {g : D → Option D} (no : noOwn ρ t.ix = true) (hv : ∀ n, v ≠ .ref n) (hi : evI G it ρ S = some (.val v, xs, S1)) (hs : ∀ x ∈ xs, stepC G t c e ρ x S1 = some (g x, S1)) (hl : (xs.filterMap g).length ≤ sizeLine) :
    evE G (.comp t it c e) ρ S = some (.lst (xs.filterMap g), S1) := by
  rw [evE, if_pos no, hi]
  simp only [Option.bind_some, lockV hv]
  have := compGo_fm (kp := fun S' => cont ρ S' (.val v) = cont ρ S1 (.val v)) (f := stepC G t c e ρ) (g := g) (S := S1) rfl xs hs
  refine Eq.trans (congrArg (fun z => Option.bind z _) this) ?_
  simp only [Option.bind_some, freeS]
  rw [if_pos hl]
theorem compGo_inv {kp : Store → Prop} {f : D → Store → Option (Option D × Store)} {I : Store → Prop} {Q : List D → Prop} (hk : ∀ S, I S → kp S) (h0 : Q []) : ∀ (xs : List D), (∀ x ∈ xs, ∀ S, I S → ∃ r S', f x S = some (r, S') ∧ I S' ∧ ∀ ys, Q ys → Q (r.toList ++ ys)) → ∀ S, I S → ∃ ys S', compGo kp f xs S = some (ys, S') ∧ I S' ∧ Q ys ∧ ys.length ≤ xs.length
  | [], _, S, h => ⟨[], S, rfl, h, h0, Nat.le_refl _⟩
  | x :: xs, hf, S, h => by
    obtain ⟨r, S1, e1, i1, q1⟩ := hf x List.mem_cons_self S h
    obtain ⟨ys, S2, e2, i2, q2, l2⟩ := compGo_inv hk h0 xs (fun y hy => hf y (List.mem_cons_of_mem _ hy)) S1 i1
    refine ⟨r.toList ++ ys, S2, ?_, i2, q1 _ q2, ?_⟩
    · unfold compGo
      rw [e1]
      simp only [Option.bind_some]
      rw [if_pos (hk _ i1), e2]
      cases r <;> rfl
    · cases r <;> simp <;> omega
theorem comp_inv {G : Fns} {t : Tg} {it : It} {c : Ar} {e : Ex} {ρ : Env'} {S S1 : Store} {v : D} {xs : List D} {I : Store → Prop} {Q : List D → Prop} (no : noOwn ρ t.ix = true) (hv : ∀ n, v ≠ .ref n) (hi : evI G it ρ S = some (.val v, xs, S1)) (hI : I S1) (h0 : Q [])
    (hs : ∀ x ∈ xs, ∀ S, I S → ∃ r S', stepC G t c e ρ x S = some (r, S') ∧ I S' ∧ ∀ ys, Q ys → Q (r.toList ++ ys)) (hl : xs.length ≤ sizeLine) :
    ∃ ys S', evE G (.comp t it c e) ρ S = some (.lst ys, S') ∧ I S' ∧ Q ys ∧ ys.length ≤ xs.length := by
  obtain ⟨ys, S', e1, i1, q1, l1⟩ := compGo_inv (kp := fun S' => cont ρ S' (.val v) = cont ρ S1 (.val v)) (f := stepC G t c e ρ) (I := I) (Q := Q) (fun S _ => contV hv _ _ _ _) h0 xs hs S1 hI
  refine ⟨ys, S', ?_, i1, q1, l1⟩
  rw [evE, if_pos no, hi]
  simp only [Option.bind_some, lockV hv]
  refine Eq.trans (congrArg (fun z => Option.bind z _) e1) ?_
  simp only [Option.bind_some, freeS]
  rw [if_pos (by omega)]
end Z

set_option Elab.async false
set_option linter.all false
set_option maxRecDepth 100000
set_option maxHeartbeats 1000000
namespace Z
open PySem PySem.Spec PyProof.Rows L2
theorem x_forGo_nil {kp : Store → Env' → Prop} {f : D → Env' → Store → Option Out} {ρ : Env'} {S : Store} : forGo kp f [] ρ S = some (.nxt ρ S) := rfl
open Classical in
theorem x_forGo_cons {kp : Store → Env' → Prop} {f : D → Env' → Store → Option Out} {x : D} {xs : List D} {ρ : Env'} {S : Store} : forGo kp f (x :: xs) ρ S = bnd (f x ρ S) (k := ⟨fun o => match o with
    | .nxt ρ' S' => if kp S' ρ' then forGo kp f xs ρ' S' else none
    | .cnt ρ' S' => if kp S' ρ' then forGo kp f xs ρ' S' else none
    | .brk ρ' S' => if kp S' ρ' then some (.brk ρ' S') else none
    | .ret d S' => if kp S' ρ then some (.ret d S') else none⟩) := by
  rw [forGo]; rfl
/-- a for over a list of the store that stays as it is -/
theorem for_ref {G : Fns} {t : Tg} {it : It} {b : Sms} {ρ : Env'} {S S1 : Store} {n : Nat} {xs : List D} {P : List D → Env' → Store → Prop} {B : Env' → Store → Prop} {R : D → Store → Prop} (hi : evI G it ρ S = some (.val (.ref n), xs, S1)) (hn : S1[n]? = some (.con (.lst xs)))
    (hP : ∀ p ρ S, P p ρ S → S[n]? = some (.con (.lst xs))) (hB : ∀ ρ S, B ρ S → S[n]? = some (.con (.lst xs))) (hR : ∀ d S, R d S → S[n]? = some (.con (.lst xs))) (h0 : P [] ρ S1)
    (hf : ∀ p x q, xs = p ++ x :: q → ∀ ρ S, P p ρ S → ∃ ρ2, bindT t x ρ = some ρ2 ∧ ∃ o, evSs G b ρ2 S = some o ∧ Ends (P (p ++ [x])) B R o) : ∃ o, evS G (.for_ t it b) ρ S = some o ∧ Ends (fun ρ S => P xs ρ S ∨ B ρ S) (fun _ _ => False) R o := by
  have c1 : ∀ ρ S, S[n]? = some (.con (.lst xs)) → cont ρ S (.val (.ref n)) = some (.lst xs) := fun ρ S h => by simp [cont, h]
  obtain ⟨o, e, h⟩ := forGo_gen (kp := fun S' ρ' => cont ρ' S' (.val (.ref n)) = cont ρ S1 (.val (.ref n))) (f := fun d ρ' S' => (bindT t d ρ').bind fun ρ2 => evSs G b ρ2 S') (P := P) (B := B) (R := R) (fun p ρ' S' h => by rw [c1 _ _ (hP _ _ _ h), c1 _ _ hn]) (fun ρ' S' h => by rw [c1 _ _ (hB _ _ h), c1 _ _ hn]) (fun _ ρ' S' d S2 _ h => by rw [c1 _ _ (hR _ _ h), c1 _ _ hn]) xs [] (fun p x q hq ρ S hp => by
    obtain ⟨ρ2, e1, o, e2, h⟩ := hf p x q hq ρ S hp
    exact ⟨o, by rw [e1]; exact e2, by simpa using h⟩) ρ S1 h0
  rw [List.nil_append] at h
  have hev : evS G (.for_ t it b) ρ S = o.after none := by
    rw [evS, hi]
    simp only [Option.bind_some, noSlot, if_true]
    have hl : lockS ρ S1 (.val (.ref n)) = some (S1, none) := by simp [lockS, hn]
    rw [hl]
    simp only [Option.bind_some]
    rw [e]
    rfl
  rw [hev]
  cases o with
  | nxt ρ S => exact ⟨_, rfl, .inl h⟩
  | cnt ρ S => exact ⟨_, rfl, .inl h⟩
  | brk ρ S => exact ⟨_, rfl, .inr h⟩
  | ret d S => exact ⟨_, rfl, h⟩
@[simp] theorem cont_int {ρ : Env'} {S : Store} {i : Int} : cont ρ S (.val (.int i)) = some (.int i) := rfl
@[simp] theorem cont_str {ρ : Env'} {S : Store} {i : Str} : cont ρ S (.val (.str i)) = some (.str i) := rfl
@[simp] theorem cont_bl {ρ : Env'} {S : Store} {i : Bool} : cont ρ S (.val (.bl i)) = some (.bl i) := rfl
@[simp] theorem cont_non {ρ : Env'} {S : Store} : cont ρ S (.val .non) = some .non := rfl
@[simp] theorem cont_tup {ρ : Env'} {S : Store} {i : List D} : cont ρ S (.val (.tup i)) = some (.tup i) := rfl
@[simp] theorem cont_lst {ρ : Env'} {S : Store} {i : List D} : cont ρ S (.val (.lst i)) = some (.lst i) := rfl
@[simp] theorem cont_dK {ρ : Env'} {S : Store} {i : List (Key × D)} : cont ρ S (.val (.dK i)) = some (.dK i) := rfl
@[simp] theorem cont_dT {ρ : Env'} {S : Store} {i : List (List Key × D)} : cont ρ S (.val (.dT i)) = some (.dT i) := rfl
@[simp] theorem cont_ref {ρ : Env'} {S : Store} {n : Nat} : cont ρ S (.val (.ref n)) = match S[n]? with
    | some (.con d) => some d
    | some (.lck d) => some d
    | _ => none := rfl
@[simp] theorem cont_slot {ρ : Env'} {S : Store} {i : Nat} : cont ρ S (.slot i) = match ρ[i]? with
    | some (.own d) => some d
    | _ => none := rfl
theorem filterMap_if {α : Type} (p : α → Bool) (xs : List α) : xs.filterMap (fun x => if p x then some x else none) = xs.filter p := by
  induction xs with
  | nil => rfl
  | cons x xs ih =>
    by_cases h : p x = true
    · rw [List.filterMap_cons_some (b := x) (by simp [h]), List.filter_cons_of_pos h, ih]
    · rw [List.filterMap_cons_none (by simp [h]), List.filter_cons_of_neg h, ih]
/-- a comprehension that keeps some of what it walks, f told -/
theorem comp_keep {α : Type} {G : Fns} {i : Nat} {it : Z.It} {c : Ex} {ρ : Env'} {S S1 : Store} {v : D} {f : α → D} {xs : List α} {p : α → Bool} (no : noOwn ρ [i] = true) (hv : ∀ n, v ≠ .ref n) (hi : evI G it ρ S = some (.val v, xs.map f, S1)) (hi2 : i < ρ.length)
    (hc : ∀ x ∈ xs, evE G c ((wipeS ρ [i]).set i (.fz (f x))) S1 = some (.bl (p x), S1)) (hl : xs.length ≤ 1000) : evE G (.comp (.nm i) it (.cons c .nil) (.var i)) ρ S = some (.lst ((xs.filter p).map f), S1) := by
  have hs : ∀ ys : List α, ∃ g : D → Option D, True := fun _ => ⟨fun _ => none, trivial⟩
  have big : (1000 : Nat) ≤ sizeLine := by decide
  have key : compGo (fun S' => cont ρ S' (.val v) = cont ρ S1 (.val v)) (stepC G (.nm i) (.cons c .nil) (.var i) ρ) (xs.map f) S1 = some ((xs.filter p).map f, S1) := by
    clear hi hl hs
    induction xs with
    | nil => rfl
    | cons x xs ih =>
      have hx := hc x List.mem_cons_self
      have l : i < (wipeS ρ [i]).length := by simp [wipeS]; exact hi2
      have e : stepC G (.nm i) (.cons c .nil) (.var i) ρ (f x) S1 = some (if p x then some (f x) else none, S1) := by
        have hx' : evE G c ((wipeS ρ (Tg.nm i).ix).set i (.fz (f x))) S1 = some (.bl (p x), S1) := hx
        have l' : i < (wipeS ρ (Tg.nm i).ix).length := l
        have g1 : ((wipeS ρ (Tg.nm i).ix).set i (.fz (f x)))[i]? = some (.fz (f x)) := List.getElem?_set_self l'
        cases hp : p x with
        | true => rw [hp] at hx'; simp [stepC, bindT, hx', blOf, g1]
        | false => rw [hp] at hx'; simp [stepC, bindT, hx', blOf]
      unfold compGo
      rw [List.map_cons]
      simp only
      rw [e]
      simp only [Option.bind_some]
      rw [if_pos (by trivial), ih (fun y hy => hc y (List.mem_cons_of_mem _ hy))]
      cases hp : p x <;> simp [hp, List.filter_cons]
  rw [evE, if_pos (show noOwn ρ (Tg.nm i).ix = true from no), hi]
  simp only [Option.bind_some, lockV hv]
  refine Eq.trans (congrArg (fun z => Option.bind z _) key) ?_
  simp only [Option.bind_some, freeS]
  rw [if_pos (by rw [List.length_map]; have := List.length_filter_le p xs; omega)]
end Z

set_option Elab.async false
set_option linter.all false
set_option maxRecDepth 100000
set_option maxHeartbeats 1000000
namespace Z
open PySem PySem.Spec PyProof.Rows L2
theorem map_split {α : Type} {f : α → D} {xs : List α} {p q : List D} {x : D} (h : xs.map f = p ++ x :: q) : ∃ y, xs = xs.take p.length ++ y :: xs.drop (p.length + 1) ∧ f y = x ∧ xs.take (p ++ [x]).length = xs.take p.length ++ [y] := by
  have hl : p.length < xs.length := by
    have := congrArg List.length h
    simp at this; omega
  refine ⟨xs[p.length], ?_, ?_, ?_⟩
  · rw [List.getElem_cons_drop, List.take_append_drop]
  · have h1 : (xs.map f)[p.length]? = some x := by rw [h]; simp
    rw [List.getElem?_map, List.getElem?_eq_getElem hl] at h1
    simpa using h1
  · rw [List.length_append, List.length_singleton, List.take_succ, List.getElem?_eq_getElem hl]; rfl
/-- a for over what is told by f -/
theorem for_map {α : Type} {G : Fns} {t : Tg} {it : Z.It} {b : Sms} {ρ : Env'} {S S1 : Store} {v : D} (f : α → D) (xs : List α) (P : List α → Env' → Store → Prop) (hv : ∀ n, v ≠ .ref n) (hi : evI G it ρ S = some (.val v, xs.map f, S1)) (h0 : P [] ρ S1)
    (hf : ∀ p x q, xs = p ++ x :: q → ∀ ρ S, P p ρ S → ∃ ρ2 ρ' S', bindT t (f x) ρ = some ρ2 ∧ evSs G b ρ2 S = some (.nxt ρ' S') ∧ P (p ++ [x]) ρ' S') : ∃ ρ' S', evS G (.for_ t it b) ρ S = some (.nxt ρ' S') ∧ P xs ρ' S' := by
  obtain ⟨ρ', S', e, h⟩ := for_pre (P := fun p ρ S => P (xs.take p.length) ρ S) hv hi h0 (fun p x q hq ρ S hp => by
    obtain ⟨y, e1, e2, e3⟩ := map_split hq
    rw [e3, ← e2]
    exact hf _ y _ e1 ρ S hp)
  refine ⟨ρ', S', e, ?_⟩
  simpa using h
/-- the same with all ends -/
theorem for_mapg {α : Type} {G : Fns} {t : Tg} {it : Z.It} {b : Sms} {ρ : Env'} {S S1 : Store} {v : D} (f : α → D) (xs : List α) (P : List α → Env' → Store → Prop) (B : Env' → Store → Prop) (R : D → Store → Prop) (hv : ∀ n, v ≠ .ref n) (hi : evI G it ρ S = some (.val v, xs.map f, S1)) (h0 : P [] ρ S1)
    (hf : ∀ p x q, xs = p ++ x :: q → ∀ ρ S, P p ρ S → ∃ ρ2, bindT t (f x) ρ = some ρ2 ∧ ∃ o, evSs G b ρ2 S = some o ∧ Ends (P (p ++ [x])) B R o) : ∃ o, evS G (.for_ t it b) ρ S = some o ∧ Ends (fun ρ S => P xs ρ S ∨ B ρ S) (fun _ _ => False) R o := by
  obtain ⟨o, e, h⟩ := for_gen (P := fun p ρ S => P (xs.take p.length) ρ S) (B := B) (R := R) hv hi h0 (fun p x q hq ρ S hp => by
    obtain ⟨y, e1, e2, e3⟩ := map_split hq
    rw [e3, ← e2]
    exact hf _ y _ e1 ρ S hp)
  refine ⟨o, e, ?_⟩
  simpa using h
theorem for_refm {α : Type} {G : Fns} {t : Tg} {it : Z.It} {b : Sms} {ρ : Env'} {S S1 : Store} {n : Nat} (f : α → D) (xs : List α) (P : List α → Env' → Store → Prop) (B : Env' → Store → Prop) (R : D → Store → Prop) (hi : evI G it ρ S = some (.val (.ref n), xs.map f, S1)) (hn : S1[n]? = some (.con (.lst (xs.map f))))
    (hP : ∀ p ρ S, P p ρ S → S[n]? = some (.con (.lst (xs.map f)))) (hB : ∀ ρ S, B ρ S → S[n]? = some (.con (.lst (xs.map f)))) (hR : ∀ d S, R d S → S[n]? = some (.con (.lst (xs.map f)))) (h0 : P [] ρ S1)
    (hf : ∀ p x q, xs = p ++ x :: q → ∀ ρ S, P p ρ S → ∃ ρ2, bindT t (f x) ρ = some ρ2 ∧ ∃ o, evSs G b ρ2 S = some o ∧ Ends (P (p ++ [x])) B R o) : ∃ o, evS G (.for_ t it b) ρ S = some o ∧ Ends (fun ρ S => P xs ρ S ∨ B ρ S) (fun _ _ => False) R o := by
  obtain ⟨o, e, h⟩ := for_ref (P := fun p ρ S => P (xs.take p.length) ρ S) (B := B) (R := R) hi hn (fun p => hP _) hB hR h0 (fun p x q hq ρ S hp => by
    obtain ⟨y, e1, e2, e3⟩ := map_split hq
    rw [e3, ← e2]
    exact hf _ y _ e1 ρ S hp)
  refine ⟨o, e, ?_⟩
  simpa using h
theorem ixN_last {n : Nat} : ixN (n + 1) (-1) = some n := by
  unfold ixN
  rw [if_neg (by omega)]
  have : (0 : Int) ≤ -1 + ((n + 1 : Nat) : Int) := by omega
  simp
  omega
theorem set_last {α : Type} (xs : List α) (x y : α) : (xs ++ [x]).set xs.length y = xs ++ [y] := by
  induction xs with
  | nil => rfl
  | cons a xs ih => rw [List.cons_append, List.length_cons, List.set_cons_succ, ih]; rfl
@[simp] theorem idx_l {xs : List D} {i : Int} : idxD (.lst xs) (.int i) = atI xs i := rfl
@[simp] theorem idx_t {xs : List D} {i : Int} : idxD (.tup xs) (.int i) = atI xs i := rfl
@[simp] theorem len_l {xs : List D} : bltD .len [.lst xs] = some (.int xs.length) := rfl
@[simp] theorem len_t {xs : List D} : bltD .len [.tup xs] = some (.int xs.length) := rfl
@[simp] theorem add_ii {i j : Int} : binD .Add (.int i) (.int j) = some (.int (i + j)) := rfl
@[simp] theorem sub_ii {i j : Int} : binD .Sub (.int i) (.int j) = some (.int (i - j)) := rfl
@[simp] theorem blOf_bl {b : Bool} : blOf (.bl b) = some b := rfl
@[simp] theorem intOf_int {b : Int} : intOf (.int b) = some b := rfl
@[simp] theorem items_l {xs : List D} : itemsIn (.lst xs) = some xs := rfl
@[simp] theorem items_t {xs : List D} : itemsIn (.tup xs) = some xs := rfl
@[simp] theorem run_fn {T : Prog} {n : Nat} : (Z.run T n).fn = runF T n := rfl
@[simp] theorem run_fld {T : Prog} {n : Nat} : (Z.run T n).fld = T.fld := rfl
end Z

set_option Elab.async false
set_option linter.all false
set_option maxRecDepth 100000
set_option maxHeartbeats 1000000
namespace Z
open PySem PySem.Spec PyProof.Rows L2
theorem strOk_app (a b : Str) : PyData.strOk (a ++ b) = (PyData.strOk a && PyData.strOk b) := by
  unfold PyData.strOk
  show (a.cps ++ b.cps).all _ = _
  rw [Array.all_append]
theorem len_app (a b : Str) : (a ++ b).length = a.length + b.length := by
  show (a.cps ++ b.cps).size = _
  rw [Array.size_append]; rfl
theorem join_ok {B : Nat} : ∀ ts : List Str, (∀ t ∈ ts, PyData.strOk t = true ∧ t.length ≤ B) → PyData.strOk (Str.join ", " ts) = true ∧ (Str.join ", " ts).length ≤ (B + 2) * ts.length
  | [], _ => ⟨by decide +kernel, by rw [show Str.join ", " ([] : List Str) = Str.empty from rfl]; exact Nat.zero_le _⟩
  | [t], h => by
    obtain ⟨a, b⟩ := h t List.mem_cons_self
    rw [show Str.join ", " [t] = t from rfl]
    exact ⟨a, by simp; omega⟩
  | t :: u :: r, h => by
    obtain ⟨a, b⟩ := h t List.mem_cons_self
    obtain ⟨c, d⟩ := join_ok (u :: r) fun z hz => h z (List.mem_cons_of_mem _ hz)
    rw [show Str.join ", " (t :: u :: r) = t ++ ", " ++ Str.join ", " (u :: r) from rfl]
    refine ⟨by rw [strOk_app, strOk_app, a, c]; decide +kernel, ?_⟩
    rw [len_app, len_app]
    have e : (", " : Str).length = 2 := rfl
    rw [e]
    have : (B + 2) * (t :: u :: r).length = (B + 2) + (B + 2) * (u :: r).length := by rw [List.length_cons, Nat.mul_add, Nat.mul_one, Nat.add_comm]
    rw [this]
    omega
theorem listText_ok {B : Nat} {ts : List Str} (h : ∀ t ∈ ts, PyData.strOk t = true ∧ t.length ≤ B) : PyData.strOk (listText ts) = true ∧ (listText ts).length ≤ (B + 2) * ts.length + 2 := by
  obtain ⟨a, b⟩ := join_ok ts h
  rw [listText_eq_join]
  refine ⟨by rw [strOk_app, strOk_app, a]; decide +kernel, ?_⟩
  rw [len_app, len_app]
  have e : ("[" : Str).length = 1 := rfl
  have e2 : ("]" : Str).length = 1 := rfl
  rw [e, e2]; omega
theorem tupleText_ok {B : Nat} {ts : List Str} (h : ∀ t ∈ ts, PyData.strOk t = true ∧ t.length ≤ B) : PyData.strOk (tupleText ts) = true ∧ (tupleText ts).length ≤ (B + 2) * ts.length + 3 := by
  obtain ⟨a, b⟩ := join_ok ts h
  unfold tupleText
  by_cases c : (ts.length == 1) = true
  · rw [if_pos c]
    refine ⟨by rw [strOk_app, strOk_app, a]; decide +kernel, ?_⟩
    rw [len_app, len_app]
    have e : ("(" : Str).length = 1 := rfl
    have e2 : ((",)" : String) : Str).length = 2 := rfl
    rw [e, e2]; omega
  · rw [if_neg c]
    refine ⟨by rw [strOk_app, strOk_app, a]; decide +kernel, ?_⟩
    rw [len_app, len_app]
    have e : ("(" : Str).length = 1 := rfl
    have e2 : ((")" : String) : Str).length = 1 := rfl
    rw [e, e2]; omega
/-- how long a thing's text is at most -/
def Txt (B : Nat) (d : D) : Prop := d.py.showable = true ∧ PyData.strOk d.py.shown = true ∧ d.py.shown.length ≤ B
theorem txtAll {B : Nat} : ∀ xs : List D, (∀ x ∈ xs, Txt B x) → PyData.showableAll (pys xs) = true ∧ (PyData.shownAll (pys xs)).length = xs.length ∧ ∀ t ∈ PyData.shownAll (pys xs), PyData.strOk t = true ∧ t.length ≤ B
  | [], _ => ⟨rfl, rfl, fun t h => by simp [pys, PyData.shownAll] at h⟩
  | x :: xs, h => by
    obtain ⟨a, b, c⟩ := txtAll xs fun y hy => h y (List.mem_cons_of_mem _ hy)
    obtain ⟨d, e, f⟩ := h x List.mem_cons_self
    refine ⟨by simp [pys, PyData.showableAll, a, d], by simp [pys, PyData.shownAll, b], fun t ht => ?_⟩
    simp only [pys, PyData.shownAll, List.mem_cons] at ht
    rcases ht with rfl | ht
    · exact ⟨e, f⟩
    · exact c t ht
theorem txt_lst {B : Nat} {xs : List D} (h : ∀ x ∈ xs, Txt B x) : Txt ((B + 2) * xs.length + 2) (.lst xs) := by
  obtain ⟨a, b, c⟩ := txtAll xs h
  have := listText_ok c
  rw [b] at this
  exact ⟨by simpa [D.py, PyData.showable] using a, by simpa only [D.py, PyData.shown] using this.1, by simpa only [D.py, PyData.shown] using this.2⟩
theorem txt_tup {B : Nat} {xs : List D} (h : ∀ x ∈ xs, Txt B x) : Txt ((B + 2) * xs.length + 3) (.tup xs) := by
  obtain ⟨a, b, c⟩ := txtAll xs h
  have := tupleText_ok c
  rw [b] at this
  exact ⟨by simpa [D.py, PyData.showable] using a, by simpa only [D.py, PyData.shown] using this.1, by simpa only [D.py, PyData.shown] using this.2⟩
theorem repr_txt {B : Nat} {d : D} (h : Txt B d) (hf : d.fit = true) (hB : B ≤ 1000000) : bltD .repr [d] = some (.str d.py.shown) := by
  have big : (1000000 : Nat) ≤ sizeLine := by decide
  obtain ⟨a, b, c⟩ := h
  simp only [bltD]
  rw [if_pos ⟨hf, a, by omega⟩]
end Z

set_option Elab.async false
set_option linter.all false
set_option maxRecDepth 100000
set_option maxHeartbeats 1000000
namespace Z
open PySem PySem.Spec PyProof.Rows L2
theorem fits_map {α : Type} (xs : List α) (f : α → D) (h : ∀ x ∈ xs, (f x).plain = true ∧ (f x).dep ≤ 59) : fits (xs.map f) = true := by
  have h1 : plains (xs.map f) = true := by
    induction xs with
    | nil => rfl
    | cons x xs ih =>
      rw [List.map_cons, plains, (h x List.mem_cons_self).1, ih fun y hy => h y (List.mem_cons_of_mem _ hy)]; rfl
  have h2 : PyData.depthAll (pys (xs.map f)) ≤ 59 := by
    clear h1
    induction xs with
    | nil => simp [pys, PyData.depthAll]
    | cons x xs ih =>
      have a := (h x List.mem_cons_self).2
      have b := ih fun y hy => h y (List.mem_cons_of_mem _ hy)
      unfold D.dep at a
      simp only [List.map_cons, pys, PyData.depthAll]
      omega
  simp only [fits, D.fit, D.plain, h1, D.dep, D.py, PyData.depth, Bool.true_and, decide_eq_true_eq]
  omega
theorem okAll_map {α : Type} (xs : List α) (f : α → D) (h : ∀ x ∈ xs, (f x).plain = true ∧ (f x).dep ≤ 59 ∧ (f x).isNon = false) (hl : ∀ x ∈ xs, ∀ y ∈ xs, likeD (f x) (f y) = true) : okAll (xs.map f) = true := by
  have h1 := fits_map xs f fun x hx => ⟨(h x hx).1, (h x hx).2.1⟩
  have h2 : ((xs.map f).all fun a => (xs.map f).all fun b => likeD a b) = true := by
    simp only [List.all_map, List.all_eq_true, Function.comp]
    exact fun x hx y hy => hl x hx y hy
  have h3 : ((xs.map f).all fun a => !a.isNon) = true := by
    simp only [List.all_map, List.all_eq_true, Function.comp]
    intro x hx
    rw [(h x hx).2.2]; rfl
  unfold okAll
  rw [h1, h2, h3]; rfl
theorem lst_eq {α : Type} [DecidableEq α] (f : α → D) (I : α → Prop) (h : ∀ x y, I x → I y → eqD (f x) (f y) = decide (x = y)) : ∀ xs ys : List α, (∀ x ∈ xs, I x) → (∀ y ∈ ys, I y) → PyData.eqvAll (pys (xs.map f)) (pys (ys.map f)) = decide (xs = ys)
  | [], [], _, _ => by simp [eqA_nil]
  | [], y :: ys, _, _ => by simp [eqA_r]
  | x :: xs, [], _, _ => by simp [eqA_l]
  | x :: xs, y :: ys, hx, hy => by
    rw [List.map_cons, List.map_cons, eqA_cons, h x y (hx x List.mem_cons_self) (hy y List.mem_cons_self), lst_eq f I h xs ys (fun z hz => hx z (List.mem_cons_of_mem _ hz)) fun z hz => hy z (List.mem_cons_of_mem _ hz)]
    rw [Bool.eq_iff_iff]; simp
/-- == and != of lists of spans, of strings -/
theorem cmpL {α : Type} [DecidableEq α] {f : α → D} {I : α → Prop} (h : ∀ x y, I x → I y → eqD (f x) (f y) = decide (x = y)) (hf : ∀ x, (f x).plain = true ∧ (f x).dep ≤ 59) {xs ys : List α} (hx : ∀ x ∈ xs, I x) (hy : ∀ y ∈ ys, I y) :
    cmpD .Eq (.lst (xs.map f)) (.lst (ys.map f)) = some (decide (xs = ys)) ∧ cmpD .NotEq (.lst (xs.map f)) (.lst (ys.map f)) = some (!decide (xs = ys)) := by
  have a : (D.lst (xs.map f)).fit = true := fits_map xs f fun x _ => hf x
  have b : (D.lst (ys.map f)).fit = true := fits_map ys f fun x _ => hf x
  simp only [cmpD, okEq, a, b, Bool.and_self, if_true, eqD_lst, lst_eq f I h xs ys hx hy, and_self]
def leS (a b : Str) : Bool := !decide (b.cps.toList < a.cps.toList)
def ltS (a b : Str) : Bool := decide (a.cps.toList < b.cps.toList)
theorem le_ss (a b : Str) (ha : PyData.strOk a = true) (hb : PyData.strOk b = true) : cmpD .LtE (.str a) (.str b) = some (leS a b) := by simp [cmpD, okLt, fit_str, ha, hb, like_str, D.isNon, ltD_str, leS]
theorem lt_ss (a b : Str) (ha : PyData.strOk a = true) (hb : PyData.strOk b = true) : cmpD .Lt (.str a) (.str b) = some (ltS a b) := by simp [cmpD, okLt, fit_str, ha, hb, like_str, D.isNon, ltD_str, ltS]
theorem decLen {α : Type} (xs : List α) (p : α → Bool) : decide (0 < ((xs.filter p).length : Int)) = xs.any p := by
  rw [Bool.eq_iff_iff]
  simp [List.length_pos_iff, List.filter_eq_nil_iff]
theorem cat (a b c : Str) (h : a ++ b = c) (hl : a.length + b.length ≤ 100) : binD .Add (.str a) (.str b) = some (.str c) := by
  have h1 : (100 : Nat) ≤ sizeLine := by decide
  simp only [binD]; rw [if_pos (by omega), h]
theorem eq_bb (a b : Bool) : cmpD .Eq (.bl a) (.bl b) = some (a == b) := by simp [cmpD, okEq, fit_bl, eqD_bl]
theorem ne_bb (a b : Bool) : cmpD .NotEq (.bl a) (.bl b) = some (a != b) := by simp [cmpD, okEq, fit_bl, eqD_bl, bne]
mutual
theorem eqD_refl : ∀ d : D, d.plain = true → eqD d d = true
  | .non, _ => eqD_non
  | .bl b, _ => by rw [eqD_bl]; simp
  | .int i, _ => by rw [eqD_int]; simp
  | .str x, _ => by rw [eqD_str]; simp
  | .lst xs, h => by rw [eqD_lst]; exact eqA_refl xs (by simpa [D.plain] using h)
  | .tup xs, h => by rw [eqD_tup]; exact eqA_refl xs (by simpa [D.plain] using h)
  | .dK _, h => by simp [D.plain] at h
  | .dT _, h => by simp [D.plain] at h
  | .ref _, h => by simp [D.plain] at h
theorem eqA_refl : ∀ xs : List D, plains xs = true → PyData.eqvAll (pys xs) (pys xs) = true
  | [], _ => eqA_nil
  | x :: xs, h => by
    simp only [plains, Bool.and_eq_true] at h
    rw [eqA_cons, eqD_refl x h.1, eqA_refl xs h.2]; rfl
end
theorem ne_self {d : D} (h : d.fit = true) : cmpD .NotEq d d = some false := by
  simp [cmpD, okEq, h, eqD_refl d (fit_plain h)]
theorem eq_self {d : D} (h : d.fit = true) : cmpD .Eq d d = some true := by
  simp [cmpD, okEq, h, eqD_refl d (fit_plain h)]
theorem okAll_ss (a b : Str) (ha : PyData.strOk a = true) (hb : PyData.strOk b = true) : okAll [.str a, .str b] = true :=
  okAll_map [a, b] D.str (fun x hx => by
    simp at hx
    rcases hx with rfl | rfl
    · exact ⟨ha, by simp [D.dep, D.py, PyData.depth], rfl⟩
    · exact ⟨hb, by simp [D.dep, D.py, PyData.depth], rfl⟩) fun x _ y _ => like_str x y
theorem ltD_ss (a b : Str) : ltD (.str a) (.str b) = ltS a b := ltD_str a b
def mxS (a b : Str) : Str := if ltS a b then b else a
def mnS (a b : Str) : Str := if ltS b a then b else a
theorem max_ss (a b : Str) (ha : PyData.strOk a = true) (hb : PyData.strOk b = true) : bltD .max [.str a, .str b] = some (.str (mxS a b)) := by
  have e : bltD .max [.str a, .str b] = if okAll [.str a, .str b] then some (maxD (.str a) [.str b]) else none := rfl
  rw [e, if_pos (okAll_ss a b ha hb)]
  simp only [maxD, List.foldl_cons, List.foldl_nil, ltD_ss, mxS]
  by_cases c : ltS a b = true
  · rw [if_pos c, if_pos c]
  · rw [if_neg c, if_neg c]
theorem min_ss (a b : Str) (ha : PyData.strOk a = true) (hb : PyData.strOk b = true) : bltD .min [.str a, .str b] = some (.str (mnS a b)) := by
  have e : bltD .min [.str a, .str b] = if okAll [.str a, .str b] then some (minD (.str a) [.str b]) else none := rfl
  rw [e, if_pos (okAll_ss a b ha hb)]
  simp only [minD, List.foldl_cons, List.foldl_nil, ltD_ss, mnS]
  by_cases c : ltS b a = true
  · rw [if_pos c, if_pos c]
  · rw [if_neg c, if_neg c]
theorem mxS_ok {a b : Str} (ha : PyData.strOk a = true) (hb : PyData.strOk b = true) : PyData.strOk (mxS a b) = true := by unfold mxS; split <;> assumption
theorem mnS_ok {a b : Str} (ha : PyData.strOk a = true) (hb : PyData.strOk b = true) : PyData.strOk (mnS a b) = true := by unfold mnS; split <;> assumption
/-- no own container in the slot -/
def nOwn : Slot → Bool
  | .own _ => false
  | _ => true
theorem noOwn_all {ρ : Env'} {is : List Nat} (h : ∀ i ∈ is, ∀ s, ρ[i]? = some s → nOwn s = true) : noOwn ρ is = true := by
  unfold noOwn
  rw [List.all_eq_true]
  intro i hi
  have := h i hi
  split
  · rename_i d hd
    exact absurd (this _ hd) (by simp [nOwn])
  · rfl
theorem le_st (a b c d : Int) : cmpD .LtE (.tup [.int a, .int b]) (.tup [.int c, .int d]) = some (!decide (c < a ∨ (c = a ∧ d < b))) := by
  simp [cmpD, okLt, fit_st, like_st, D.isNon, stlt]
theorem lt_st (a b c d : Int) : cmpD .Lt (.tup [.int a, .int b]) (.tup [.int c, .int d]) = some (decide (a < c ∨ (a = c ∧ b < d))) := by
  simp [cmpD, okLt, fit_st, like_st, D.isNon, stlt]
/-- one of a list, drawn -/
theorem atI_in {α : Type} {f : α → D} {xs : List α} {v : Int} (h : 0 ≤ v ∧ v < (xs.length : Int)) : ∃ x ∈ xs, atI (xs.map f) v = some (f x) := by
  obtain ⟨i, rfl⟩ := Int.eq_ofNat_of_zero_le h.1
  have hl : i < xs.length := by omega
  refine ⟨xs[i], List.getElem_mem hl, ?_⟩
  rw [Z.atI_nat (by simpa using hl)]
  simp [hl]
end Z

set_option Elab.async false
set_option linter.all false
set_option maxRecDepth 100000
set_option maxHeartbeats 1000000
namespace Z
open PySem PySem.Spec PyProof.Rows L2
@[simp high] theorem x_blt1 {G : Fns} {b : Bi} {e : Ex} {ρ : Env'} {S : Store} : evE G (.blt b (.cons e .nil)) ρ S = bnd (hOf e ρ S (evE G e ρ S)) (k := ⟨fun x => bnd (cont ρ x.2 x.1) (k := ⟨fun u => mp (bltD b [u]) (k := ⟨fun d => (d, x.2)⟩)⟩)⟩) := by
  rw [evE, evH]
  cases hOf e ρ S (evE G e ρ S) with
  | none => rfl
  | some x =>
    simp only [Option.bind_some, Option.map_some, bnd_some, evH]
    cases h : cont ρ x.2 x.1 with
    | none => simp [h, bnd]
    | some u => simp [h, bnd, mp]
@[simp high] theorem x_blt2 {G : Fns} {b : Bi} {e e' : Ex} {ρ : Env'} {S : Store} : evE G (.blt b (.cons e (.cons e' .nil))) ρ S = bnd (hOf e ρ S (evE G e ρ S)) (k := ⟨fun x => bnd (hOf e' ρ x.2 (evE G e' ρ x.2)) (k := ⟨fun y => bnd (cont ρ y.2 x.1) (k := ⟨fun u => bnd (cont ρ y.2 y.1) (k := ⟨fun v => mp (bltD b [u, v]) (k := ⟨fun d => (d, y.2)⟩)⟩)⟩)⟩)⟩) := by
  rw [evE, evH]
  cases hOf e ρ S (evE G e ρ S) with
  | none => rfl
  | some x =>
    simp only [Option.bind_some, Option.map_some, bnd_some, evH]
    cases hOf e' ρ x.2 (evE G e' ρ x.2) with
    | none => rfl
    | some y =>
      simp only [Option.bind_some, Option.map_some, bnd_some]
      cases h : cont ρ y.2 x.1 with
      | none => simp [h, bnd]
      | some u =>
        cases h' : cont ρ y.2 y.1 with
        | none => simp [h, h', bnd]
        | some v => simp [h, h', bnd, mp]
theorem len1 : (1 : Nat) ≤ sizeLine := by decide
theorem range_split {n x : Nat} {p q : List Nat} (h : List.range n = p ++ x :: q) : x = p.length ∧ x < n := by
  have hl : p.length < n := by
    have := congrArg List.length h
    simp at this; omega
  have h1 : (List.range n)[p.length]? = some x := by rw [h]; simp
  rw [List.getElem?_range hl] at h1
  cases h1
  exact ⟨rfl, hl⟩
/-- a comprehension that changes nothing, over anything -/
theorem comp_h {α : Type} {G : Fns} {t : Tg} {it : Z.It} {c : Ar} {e : Ex} {ρ : Env'} {S S1 : Store} {w : Hd} {f : α → D} {xs : List α} {g : α → Option D} (no : noOwn ρ t.ix = true) (hlk : lockS ρ S1 w = some (S1, none)) (hi : evI G it ρ S = some (w, xs.map f, S1)) (hs : ∀ x ∈ xs, stepC G t c e ρ (f x) S1 = some (g x, S1)) (hl : xs.length ≤ 1000) :
    evE G (.comp t it c e) ρ S = some (.lst (xs.filterMap g), S1) := by
  have big : (1000 : Nat) ≤ sizeLine := by decide
  have key : compGo (fun S' => cont ρ S' w = cont ρ S1 w) (stepC G t c e ρ) (xs.map f) S1 = some (xs.filterMap g, S1) := by
    clear hi hl
    induction xs with
    | nil => rfl
    | cons x xs ih =>
      unfold compGo
      rw [List.map_cons]
      simp only
      rw [hs x List.mem_cons_self]
      simp only [Option.bind_some]
      rw [if_pos (by trivial), ih (fun y hy => hs y (List.mem_cons_of_mem _ hy))]
      cases hg : g x <;> simp [hg]
  rw [evE, if_pos no, hi]
  simp only [Option.bind_some, hlk]
  refine Eq.trans (congrArg (fun z => Option.bind z _) key) ?_
  simp only [Option.bind_some, freeS]
  rw [if_pos (by have := List.length_filterMap_le g xs; omega)]
theorem comp_maph {α : Type} {G : Fns} {t : Tg} {it : Z.It} {e : Ex} {ρ : Env'} {S S1 : Store} {w : Hd} (f : α → D) (xs : List α) (g : α → D) (no : noOwn ρ t.ix = true) (hlk : lockS ρ S1 w = some (S1, none)) (hi : evI G it ρ S = some (w, xs.map f, S1)) (hs : ∀ x ∈ xs, ∃ ρ', bindT t (f x) (wipeS ρ t.ix) = some ρ' ∧ evE G e ρ' S1 = some (g x, S1)) (hl : xs.length ≤ 1000) :
    evE G (.comp t it .nil e) ρ S = some (.lst (xs.map g), S1) := by
  have := comp_h (c := .nil) (e := e) (g := fun x => some (g x)) no hlk hi (fun x hx => by
    obtain ⟨ρ', e1, e2⟩ := hs x hx
    simp [stepC, e1, e2]) hl
  rw [this]
  simp
theorem comp_keeph {α : Type} {G : Fns} {i : Nat} {it : Z.It} {c : Ex} {ρ : Env'} {S S1 : Store} {w : Hd} (f : α → D) (xs : List α) (p : α → Bool) (no : noOwn ρ [i] = true) (hlk : lockS ρ S1 w = some (S1, none)) (hi : evI G it ρ S = some (w, xs.map f, S1)) (hi2 : i < ρ.length)
    (hs : ∀ x ∈ xs, evE G c ((ρ.set i .un).set i (.fz (f x))) S1 = some (.bl (p x), S1)) (hl : xs.length ≤ 1000) :
    evE G (.comp (.nm i) it (.cons c .nil) (.var i)) ρ S = some (.lst ((xs.filter p).map f), S1) := by
  have := comp_h (t := .nm i) (c := .cons c .nil) (e := .var i) (g := fun x => if p x then some (f x) else none) no hlk hi (fun x hx => by
    have h := hs x hx
    have h' : evE G c ((wipeS ρ (Tg.nm i).ix).set i (.fz (f x))) S1 = some (.bl (p x), S1) := h
    have l' : i < (wipeS ρ (Tg.nm i).ix).length := by show i < (ρ.set i .un).length; simpa using hi2
    have g1 : ((wipeS ρ (Tg.nm i).ix).set i (.fz (f x)))[i]? = some (.fz (f x)) := List.getElem?_set_self l'
    cases hp : p x with
    | true => rw [hp] at h'; simp [stepC, bindT, h', g1]
    | false => rw [hp] at h'; simp [stepC, bindT, h']) hl
  rw [this]
  congr 3
  clear hs hl hi this
  induction xs with
  | nil => rfl
  | cons x xs ih =>
    cases hp : p x with
    | true => rw [List.filterMap_cons_some (b := f x) (by simp [hp]), List.filter_cons_of_pos hp, List.map_cons, ih]
    | false => rw [List.filterMap_cons_none (by simp [hp]), List.filter_cons_of_neg (by simp [hp]), ih]
theorem lock_ref {ρ : Env'} {S : Store} {m : Nat} {xs : List D} (h : S[m]? = some (.con (.lst xs))) : lockS ρ S (.val (.ref m)) = some (S, none) := by simp [lockS, h]
theorem lock_slot {ρ : Env'} {S : Store} {m : Nat} {xs : List D} (h : ρ[m]? = some (.own (.lst xs))) : lockS ρ S (.slot m) = some (S, none) := by simp [lockS, h]
theorem no_cnt {G : Fns} {t : Tg} {it : Z.It} {b : Sms} {ρ ρ' : Env'} {S S' : Store} (e : evS G (.for_ t it b) ρ S = some (.cnt ρ' S')) : False := by
  rw [evS] at e
  obtain ⟨w, _, e⟩ := Option.bind_eq_some_iff.mp e
  split at e
  · obtain ⟨l, _, e⟩ := Option.bind_eq_some_iff.mp e
    obtain ⟨o, _, e⟩ := Option.bind_eq_some_iff.mp e
    cases o <;> simp [Out.after] at e
  · cases e
/-- how a for's walk ends -/
theorem for_two {G : Fns} {t : Tg} {it : Z.It} {b : Sms} {ρ : Env'} {S : Store} {P : Env' → Store → Prop} {R : D → Store → Prop} (h : ∃ o, evS G (.for_ t it b) ρ S = some o ∧ Ends (fun ρ S => P ρ S ∨ False) (fun _ _ => False) R o) : (∃ ρ' S', evS G (.for_ t it b) ρ S = some (.nxt ρ' S') ∧ P ρ' S') ∨ ∃ d S', evS G (.for_ t it b) ρ S = some (.ret d S') ∧ R d S' := by
  obtain ⟨o, e, h⟩ := h
  cases o with
  | nxt ρ' S' => exact .inl ⟨ρ', S', e, h.elim id False.elim⟩
  | cnt ρ' S' => exact (no_cnt e).elim
  | brk ρ' S' => exact h.elim
  | ret d S' => exact .inr ⟨d, S', e, h⟩
end Z

set_option Elab.async false
set_option linter.all false
set_option maxRecDepth 100000
set_option maxHeartbeats 1000000
namespace Z
open PySem PySem.Spec PyProof.Rows L2
/-! # draws of the second kind -/
def bDraw : Sms :=
      (.cons (.ife (.cmp .Lt (.var 1) (.cst (.int 1))) (.cons (.ret (.cst (.int 0)))
      .nil) .nil)
      (.cons (.asg (.nm 2) (.idx (.var 0) (.cst (.int 0))))
      (.cons (.while_ (.and (.cmp .Gt (.blt .len (.cons (.var 2) .nil)) (.cst (.int 0))) (.cmp .Eq (.idx (.var 2) (.cst (.int 0))) (.cst (.int 0)))) (.cons (.pop none (.var 2) (.cons (.cst (.int 0)) .nil))
      .nil))
      (.cons (.ife (.cmp .Gt (.blt .len (.cons (.var 2) .nil)) (.cst (.int 0))) (.cons (.asg (.nm 4) (.idx (.var 2) (.cst (.int 0))))
      (.cons (.seti (.var 2) (.cst (.int 0)) (.bin .FloorDiv (.var 4) (.var 1)))
      (.cons (.ret (.bin .Mod (.blt .int (.cons (.var 4) .nil)) (.var 1)))
      .nil))) .nil)
      (.cons (.asg (.nm 3) (.bin .Mod (.blt .int (.cons (.bin .Add (.bin .Mult (.idx (.var 0) (.cst (.int 1))) (.cst (.int 48271))) (.cst (.int 12345))) .nil)) (.cst (.int 2147483647))))
      (.cons (.seti (.var 0) (.cst (.int 1)) (.var 3))
      (.cons (.ret (.bin .Mod (.blt .int (.cons (.bin .FloorDiv (.var 3) (.cst (.int 64))) .nil)) (.var 1)))
      .nil)))))))
def bState2 : Sms :=
      (.cons (.asg (.nm 1) (.cst (.int 7)))
      (.cons (.for_ (.nm 2) (.seq (.var 0)) (.cons (.asg (.nm 1) (.bin .Mod (.blt .int (.cons (.bin .Add (.bin .Mult (.var 1) (.cst (.int 31))) (.var 2)) .nil)) (.cst (.int 1000003))))
      .nil))
      (.cons (.ret (.mref (.list (.cons (.mref (.comp (.nm 2) (.seq (.var 0)) .nil (.blt .abs (.cons (.var 2) .nil)))) (.cons (.bin .Add (.var 1) (.cst (.int 1))) .nil)))))
      .nil)))

@[simp] theorem int_i {i : Int} : bltD .int [.int i] = some (.int i) := rfl
@[simp] theorem abs_i {i : Int} : bltD .abs [.int i] = some (.int (if i < 0 then -i else i)) := rfl
theorem mul_ii {i j : Int} (h : CMul i j) : binD .Mult (.int i) (.int j) = some (.int (i * j)) := by simp only [binD]; rw [if_pos h]
theorem div_ii {i j : Int} (h : CDiv i j) : binD .FloorDiv (.int i) (.int j) = some (.int (i / j)) := by simp only [binD]; rw [if_pos h]
theorem mod_ii {i j : Int} (h : 0 < j) : binD .Mod (.int i) (.int j) = some (.int (i % j)) := by simp only [binD]; rw [if_pos h]
structure Rnd2 (S : Store) (st c : Nat) (seed : Int) (cs : List Int) : Prop where
  at_ : S[st]? = some (.con (.lst [.ref c, .int seed]))
  row : S[c]? = some (.con (.lst (cs.map .int)))
  ne : st ≠ c
  len : cs.length ≤ 1000
  nn : ∀ x ∈ cs, 0 ≤ x
/-- what a draw may do -/
def Went2 (S : Store) (st c : Nat) (S' : Store) : Prop := (∃ seed cs, Rnd2 S' st c seed cs) ∧ S'.length = S.length ∧ ∀ k, k ≠ st → k ≠ c → S'[k]? = S[k]?
theorem Went2.trans {S S1 S2 : Store} {st c : Nat} (a : Went2 S st c S1) (b : Went2 S1 st c S2) : Went2 S st c S2 := ⟨b.1, b.2.1.trans a.2.1, fun k h1 h2 => (b.2.2 k h1 h2).trans (a.2.2 k h1 h2)⟩
theorem seqIndex0 {n : Nat} : seqIndex? 0 (n + 1) = some 0 := by
  unfold seqIndex?
  simp
  try omega
theorem len_pos {n : Nat} : (0 : Int) < ((n + 1 : Nat) : Int) := by omega
def drC : Ex := (.and (.cmp .Gt (.blt .len (.cons (.var 2) .nil)) (.cst (.int 0))) (.cmp .Eq (.idx (.var 2) (.cst (.int 0))) (.cst (.int 0))))
def drB : Sms := (.cons (.pop none (.var 2) (.cons (.cst (.int 0)) .nil)) .nil)
theorem set_set {S : Store} {c : Nat} {x y : Cell} : (S.set c x).set c y = S.set c y := by simp
theorem set_id {S : Store} {c : Nat} {x : Cell} (h : S[c]? = some x) : S.set c x = S := by
  obtain ⟨hl, he⟩ := List.getElem?_eq_some_iff.mp h
  rw [← he]; simp
theorem drop_zeros (G : Fns) {st c : Nat} {m : Int} {x3 x4 : Slot} : ∀ (cs : List Int) (n : Nat) (S : Store), S[c]? = some (.con (.lst (cs.map .int))) → cs.length < n →
    whGo (fun ρ' S' => (evE G drC ρ' S').bind fun x => (blOf x.1).map fun k => (k, x.2)) (fun ρ' S' => evSs G drB ρ' S') n [.fz (.ref st), .fz (.int m), .fz (.ref c), x3, x4] S = some (.nxt [.fz (.ref st), .fz (.int m), .fz (.ref c), x3, x4] (S.set c (.con (.lst ((cs.dropWhile (· = 0)).map .int)))))
  | [], n + 1, S, h, _ => by
    have e : evE G drC [.fz (.ref st), .fz (.int m), .fz (.ref c), x3, x4] S = some (.bl false, S) := by
      have h' : S[c]? = some (.con (.lst [])) := h
      simp -implicitDefEqProofs [drC, hOf, h', Cst.d, gt_ii]
    unfold whGo
    simp only [e, Option.bind_some, blOf_bl, Option.map_some, Bool.false_eq_true, if_false]
    rw [List.dropWhile_nil, set_id h]
  | x :: cs, n + 1, S, h, hl => by
    by_cases hx : x = 0
    · subst hx
      have h' : S[c]? = some (.con (.lst (.int 0 :: cs.map .int))) := h
      have p0 : (0 : Int) < (cs.length : Int) + 1 := by omega
      have e : evE G drC [.fz (.ref st), .fz (.int m), .fz (.ref c), x3, x4] S = some (.bl true, S) := by
        simp -implicitDefEqProofs [drC, hOf, h', Cst.d, gt_ii, Z.atI0, eq_ii, p0]
      have s0 : smallI 0 = true := by decide +kernel
      have e2 : evSs G drB [.fz (.ref st), .fz (.int m), .fz (.ref c), x3, x4] S = some (.nxt [.fz (.ref st), .fz (.int m), .fz (.ref c), x3, x4] (S.set c (.con (.lst (cs.map .int))))) := by
        simp -implicitDefEqProofs [drB, hOf, h', Cst.d, popD, s0, seqIndex0, putC, setC, isLst, isDct]
      have hc : (S.set c (.con (.lst (cs.map .int))))[c]? = some (.con (.lst (cs.map .int))) := List.getElem?_set_self (List.getElem?_eq_some_iff.mp h).1
      unfold whGo
      simp only [e, Option.bind_some, blOf_bl, Option.map_some, if_true, e2]
      rw [drop_zeros G cs n _ hc (by simp at hl; omega), set_set]
      simp [List.dropWhile]
    · have h' : S[c]? = some (.con (.lst (.int x :: cs.map .int))) := h
      have p0 : (0 : Int) < (cs.length : Int) + 1 := by omega
      have e : evE G drC [.fz (.ref st), .fz (.int m), .fz (.ref c), x3, x4] S = some (.bl false, S) := by
        simp -implicitDefEqProofs [drC, hOf, h', Cst.d, gt_ii, Z.atI0, eq_ii, p0, hx]
      unfold whGo
      simp only [e, Option.bind_some, blOf_bl, Option.map_some, Bool.false_eq_true, if_false]
      have : (x :: cs).dropWhile (· = 0) = x :: cs := by simp [List.dropWhile, hx]
      rw [this, set_id h]
theorem drop_mem {cs : List Int} : ∀ x ∈ cs.dropWhile (· = 0), x ∈ cs := fun x h => (List.dropWhile_sublist _).subset h
theorem drop_len (cs : List Int) : (cs.dropWhile (· = 0)).length ≤ cs.length := (List.dropWhile_sublist _).length_le
theorem draw1 (G : Fns) {S : Store} {st c : Nat} {seed : Int} {cs : List Int} (R : Rnd2 S st c seed cs) (most : Int) (hm2 : most < 1073741824) :
    ∃ v S', evSs G bDraw [.fz (.ref st), .fz (.int most), .un, .un, .un] S = some (.ret (.int v) S') ∧ (0 < most → 0 ≤ v ∧ v < most) ∧ Went2 S st c S' := by
  have R' := R
  obtain ⟨h1, h2, h3, h4, h5⟩ := R
  by_cases hm : 0 < most
  case neg =>
    have hlt : most < 1 := by omega
    refine ⟨0, S, ?_, fun h => absurd h hm, ⟨seed, cs, R'⟩, rfl, fun _ _ _ => rfl⟩
    simp -implicitDefEqProofs [bDraw, Cst.d, hOf, lt_ii, hlt]
  have hlt : ¬ most < 1 := by omega
  have hdiv : ∀ (x : Int), CDiv x most := fun x => ⟨hm, hm2⟩
  have hst := (List.getElem?_eq_some_iff.mp h1).1
  have hcl := (List.getElem?_eq_some_iff.mp h2).1
  have ew : evS G (.while_ drC drB) [.fz (.ref st), .fz (.int most), .fz (.ref c), .un, .un] S = some (.nxt [.fz (.ref st), .fz (.int most), .fz (.ref c), .un, .un] (S.set c (.con (.lst ((cs.dropWhile (· = 0)).map .int))))) := by
    rw [x_evS_while_]
    exact drop_zeros G cs whMost S h2 (by have : (1000 : Nat) < whMost := by decide
                                          omega)
  have e0 : evS G (.ife (.cmp .Lt (.var 1) (.cst (.int 1))) (.cons (.ret (.cst (.int 0))) .nil) .nil) [.fz (.ref st), .fz (.int most), .un, .un, .un] S = some (.nxt [.fz (.ref st), .fz (.int most), .un, .un, .un] S) := by
    simp -implicitDefEqProofs [Cst.d, hOf, lt_ii, hlt]
  have e1 : evS G (.asg (.nm 2) (.idx (.var 0) (.cst (.int 0)))) [.fz (.ref st), .fz (.int most), .un, .un, .un] S = some (.nxt [.fz (.ref st), .fz (.int most), .fz (.ref c), .un, .un] S) := by
    simp -implicitDefEqProofs [Cst.d, hOf, h1, Z.atI0, bindT]
  unfold bDraw
  rw [seq1 e0, seq1 e1]
  have ew' : evS G (.while_ (.and (.cmp .Gt (.blt .len (.cons (.var 2) .nil)) (.cst (.int 0))) (.cmp .Eq (.idx (.var 2) (.cst (.int 0))) (.cst (.int 0)))) (.cons (.pop none (.var 2) (.cons (.cst (.int 0)) .nil)) .nil)) [.fz (.ref st), .fz (.int most), .fz (.ref c), .un, .un] S = _ := ew
  rw [seq1 ew']
  have hdm := fun x => @drop_mem cs x
  have hdl := drop_len cs
  generalize cs.dropWhile (· = 0) = ds at *
  have g1 : (S.set c (.con (.lst (ds.map .int))))[st]? = some (.con (.lst [.ref c, .int seed])) := by rw [List.getElem?_set_ne h3.symm]; exact h1
  have g2 : (S.set c (.con (.lst (ds.map .int))))[c]? = some (.con (.lst (ds.map .int))) := List.getElem?_set_self hcl
  have gl : (S.set c (.con (.lst (ds.map .int)))).length = S.length := by simp
  have gk : ∀ k, k ≠ st → k ≠ c → (S.set c (.con (.lst (ds.map .int))))[k]? = S[k]? := fun k _ hk => List.getElem?_set_ne hk.symm
  generalize S.set c (.con (.lst (ds.map .int))) = S1 at *
  cases ds with
  | nil =>
    have g2' : S1[c]? = some (.con (.lst [])) := g2
    have hm1 : CMul seed 48271 := .inr ⟨by decide, by decide⟩
    have hd64 : ∀ a : Int, CDiv a 64 := fun a => ⟨by decide, by decide⟩
    have ix1 : ixN 2 1 = some 1 := by decide
    refine ⟨(seed * 48271 + 12345) % 2147483647 / 64 % most, S1.set st (.con (.lst [.ref c, .int ((seed * 48271 + 12345) % 2147483647)])), ?_, fun _ => ⟨Int.emod_nonneg _ (by omega), Int.emod_lt_of_pos _ hm⟩, ⟨_, [], ⟨List.getElem?_set_self (by omega), by rw [List.getElem?_set_ne h3]; exact g2, h3, by decide, fun x h => absurd h (by simp)⟩⟩, by simp [gl], fun k hk1 hk2 => by rw [List.getElem?_set_ne hk1.symm]; exact gk k hk1 hk2⟩
    simp -implicitDefEqProofs [hOf, g1, g2', Cst.d, gt_ii, Z.atI1, mul_ii, div_ii, mod_ii, hm1, hd64, hdiv, bindT, setItem', ix1, putC, setC, hm]
  | cons v ds =>
    have g2' : S1[c]? = some (.con (.lst (.int v :: ds.map .int))) := g2
    have p0 : (0 : Int) < (ds.length : Int) + 1 := by omega
    have hv : 0 ≤ v := h5 v (hdm v List.mem_cons_self)
    have ix0 : ixN (ds.length + 1) 0 = some 0 := Z.ixN_nat (j := 0) (by omega)
    refine ⟨v % most, S1.set c (.con (.lst ((v / most :: ds).map .int))), ?_, fun _ => ⟨Int.emod_nonneg _ (by omega), Int.emod_lt_of_pos _ hm⟩, ⟨seed, v / most :: ds, ⟨by rw [List.getElem?_set_ne h3.symm]; exact g1, List.getElem?_set_self (by omega), h3, by simp at hdl ⊢; omega, fun x h => ?_⟩⟩, by simp [gl], fun k hk1 hk2 => by rw [List.getElem?_set_ne hk2.symm]; exact gk k hk1 hk2⟩
    · simp -implicitDefEqProofs [hOf, g2', Cst.d, gt_ii, Z.atI0, div_ii, mod_ii, hdiv, bindT, setItem', ix0, putC, setC, hm, p0]
    · rcases List.mem_cons.mp h with rfl | h
      · exact Int.ediv_nonneg hv (by omega)
      · exact h5 x (hdm x (List.mem_cons_of_mem _ h))
theorem draw_ok {T : Prog} (at_draw : T.defs.lookup (("_law_draw", none) : Str × Option Str) = some (⟨2, 5, bDraw⟩ : Fd)) {n : Nat} {S : Store} {st c : Nat} {seed : Int} {cs : List Int} (R : Rnd2 S st c seed cs) (most : Int) (h : most < 1073741824) : ∃ v S', runF T (n + 1) ("_law_draw", none) [.ref st, .int most] S = some (.int v, S') ∧ (0 < most → 0 ≤ v ∧ v < most) ∧ Went2 S st c S' := by
  obtain ⟨v, S', e, d⟩ := draw1 (run T n) R most h
  refine ⟨v, S', ?_, d⟩
  rw [run_def at_draw _ _ rfl]
  show (evSs (run T n) bDraw [.fz (.ref st), .fz (.int most), .un, .un, .un] S).bind _ = _
  rw [e]; rfl
/-- a for over what does not change -/
theorem for_w {α : Type} {G : Fns} {t : Tg} {it : Z.It} {b : Sms} {ρ : Env'} {S S1 : Store} {w : Hd} {u : D} (f : α → D) (xs : List α) (P : List α → Env' → Store → Prop) (hw : noSlot w = true) (hi : evI G it ρ S = some (w, xs.map f, S1)) (hl : lockS ρ S1 w = some (S1, none)) (hc : cont ρ S1 w = some u) (hP : ∀ p ρ S, P p ρ S → cont ρ S w = some u) (h0 : P [] ρ S1)
    (hf : ∀ p x q, xs = p ++ x :: q → ∀ ρ S, P p ρ S → ∃ ρ2 ρ' S', bindT t (f x) ρ = some ρ2 ∧ evSs G b ρ2 S = some (.nxt ρ' S') ∧ P (p ++ [x]) ρ' S') : ∃ ρ' S', evS G (.for_ t it b) ρ S = some (.nxt ρ' S') ∧ P xs ρ' S' := by
  obtain ⟨o, e, h⟩ := forGo_gen (kp := fun S' ρ' => cont ρ' S' w = cont ρ S1 w) (f := fun d ρ' S' => (bindT t d ρ').bind fun ρ2 => evSs G b ρ2 S') (P := fun p ρ S => P (xs.take p.length) ρ S) (B := fun _ _ => False) (R := fun _ _ => False) (fun p ρ' S' h => by rw [hP _ _ _ h, hc]) (fun ρ' S' h => h.elim) (fun _ ρ' S' d S2 _ h => h.elim) (xs.map f) [] (fun p x q hq ρ S hp => by
    obtain ⟨y, e1, e2, e3⟩ := map_split hq
    obtain ⟨ρ2, ρ', S', a1, a2, a3⟩ := hf _ y _ e1 ρ S hp
    refine ⟨.nxt ρ' S', by rw [← e2, a1]; exact a2, ?_⟩
    show P (xs.take ([] ++ p ++ [x]).length) ρ' S'
    rw [List.nil_append, e3]; exact a3) ρ S1 h0
  have hev : evS G (.for_ t it b) ρ S = o.after none := by
    rw [evS, hi]
    simp only [Option.bind_some, hw, if_true, hl]
    rw [e]
    rfl
  rw [hev]
  cases o with
  | nxt ρ S => exact ⟨ρ, S, rfl, by simpa [Ends] using h⟩
  | cnt ρ S => exact ⟨ρ, S, rfl, by simpa [Ends] using h⟩
  | brk ρ S => exact h.elim
  | ret d S => exact h.elim
theorem lock_lck {ρ : Env'} {S : Store} {m : Nat} {u : D} (h : S[m]? = some (.lck u)) : lockS ρ S (.val (.ref m)) = some (S, none) := by simp [lockS, h]
theorem state2_ok {T : Prog} (at_state : T.defs.lookup (("_law_state", none) : Str × Option Str) = some (⟨1, 3, bState2⟩ : Fd)) {n : Nat} {S : Store} {ns : List Int} (h : S[0]? = some (.lck (.lst (ns.map .int)))) (hl : ns.length ≤ 63) :
    ∃ st c S' seed cs, runF T (n + 1) ("_law_state", none) [.ref 0] S = some (.ref st, S') ∧ Rnd2 S' st c seed cs ∧ S.length ≤ st ∧ S.length ≤ c ∧ ∀ k, k < S.length → S'[k]? = S[k]? := by
  rw [run_def at_state _ _ rfl]
  show ∃ st c S' seed cs, (evSs (Z.run T n) bState2 [.fz (.ref 0), .un, .un] S).bind outR = _ ∧ _
  have hc0 : ∀ ρ, cont ρ S (.val (.ref 0)) = some (.lst (ns.map .int)) := fun ρ => by simp [h]
  have hi : ∀ ρ : Env', ρ[0]? = some (.fz (.ref 0)) → evI (Z.run T n) (.seq (.var 0)) ρ S = some (.val (.ref 0), ns.map .int, S) := fun ρ h0 => by
    simp -implicitDefEqProofs [hOf, h0, h]
  have e0 : evS (Z.run T n) (.asg (.nm 1) (.cst (.int 7))) [.fz (.ref 0), .un, .un] S = some (.nxt [.fz (.ref 0), .fz (.int 7), .un] S) := by
    simp -implicitDefEqProofs [Cst.d, bindT]
  obtain ⟨ρ', S', e1, rfl, seed, x2, n2, rfl⟩ := for_w (G := Z.run T n) (t := .nm 2) (it := .seq (.var 0)) (b := (.cons (.asg (.nm 1) (.bin .Mod (.blt .int (.cons (.bin .Add (.bin .Mult (.var 1) (.cst (.int 31))) (.var 2)) .nil)) (.cst (.int 1000003)))) .nil)) (ρ := [.fz (.ref 0), .fz (.int 7), .un]) D.int ns (fun _ ρ S' => S' = S ∧ ∃ (seed : Int) (x2 : Slot), nOwn x2 = true ∧ ρ = [.fz (.ref 0), .fz (.int seed), x2]) rfl (hi _ rfl) (lock_lck h) (hc0 _) (fun p ρ S' h => by rw [h.1]; exact hc0 ρ) ⟨rfl, 7, .un, rfl, rfl⟩
    (fun p x q hq ρ S' ⟨h1, seed, x2, _, h2⟩ => by
      subst h1 h2
      have hm1 : CMul seed 31 := .inr ⟨by decide, by decide⟩
      refine ⟨[.fz (.ref 0), .fz (.int seed), .fz (.int x)], [.fz (.ref 0), .fz (.int ((seed * 31 + x) % 1000003)), .fz (.int x)], S', rfl, ?_, rfl, _, _, rfl, rfl⟩
      simp -implicitDefEqProofs [hOf, Cst.d, mul_ii, mod_ii, hm1, bindT])
  have no1 : noOwn [.fz (.ref 0), .fz (.int seed), x2] [2] = true := by cases x2 <;> first | rfl | (simp [nOwn] at n2)
  have e2 := comp_maph (G := Z.run T n) (t := .nm 2) (it := .seq (.var 0)) (e := .blt .abs (.cons (.var 2) .nil)) (ρ := [.fz (.ref 0), .fz (.int seed), x2]) (S := S') (S1 := S') (w := .val (.ref 0)) D.int ns (fun i => D.int (if i < 0 then -i else i)) no1 (lock_lck h) (hi _ rfl)
    (fun x hx => ⟨[.fz (.ref 0), .fz (.int seed), .fz (.int x)], rfl, by simp -implicitDefEqProofs [hOf]⟩) (by omega)
  refine ⟨S'.length + 1, S'.length, S' ++ [.con (.lst ((ns.map fun i => if i < 0 then -i else i).map .int)), .con (.lst [.ref S'.length, .int (seed + 1)])], seed + 1, ns.map fun i => if i < 0 then -i else i, ?_, ⟨by rw [List.getElem?_append_right (by omega)]; simp, by rw [List.getElem?_append_right (Nat.le_refl _)]; simp, by omega, by rw [List.length_map]; omega, fun x hx => ?_⟩, by omega, by omega, fun k hk => by rw [List.getElem?_append_left hk]⟩
  · unfold bState2
    rw [seq1 e0, seq1 e1]
    have mm : (ns.map fun i => D.int (if i < 0 then -i else i)) = (ns.map fun i => if i < 0 then -i else i).map .int := by rw [List.map_map]; rfl
    rw [mm] at e2
    generalize (ns.map fun i => if i < 0 then -i else i).map D.int = L at *
    simp -implicitDefEqProofs [e2, newRef, hOf, Cst.d, len2, outR]
  · obtain ⟨i, _, rfl⟩ := List.mem_map.mp hx
    split <;> omega
end Z

set_option Elab.async false
set_option linter.all false
set_option maxRecDepth 100000
set_option maxHeartbeats 1000000
namespace Z
open PySem PySem.Spec PyProof.Rows L2
/-- a dict comprehension that changes nothing, over anything, no filter -/
theorem dcomp_maph {α : Type} {G : Fns} {t : Tg} {it : Z.It} {ek ev : Ex} {ρ : Env'} {S S1 : Store} {w : Hd} (f : α → D) (xs : List α) (gk gv : α → D) {es : List (Key × D)} (no : noOwn ρ t.ix = true) (hlk : lockS ρ S1 w = some (S1, none)) (hi : evI G it ρ S = some (w, xs.map f, S1))
    (hs : ∀ x ∈ xs, ∃ ρ', bindT t (f x) (wipeS ρ t.ix) = some ρ' ∧ evE G ek ρ' S1 = some (gk x, S1) ∧ evE G ev ρ' S1 = some (gv x, S1)) (hl : xs.length ≤ 1000) (hm : mkd (xs.map fun x => .tup [gk x, gv x]) [] = some es) :
    evE G (.dcomp t it .nil ek ev) ρ S = some (.dK es, S1) := by
  have big : (1000 : Nat) ≤ sizeLine := by decide
  have key : compGo (fun S' => cont ρ S' w = cont ρ S1 w) (fun d S' => (bindT t d (wipeS ρ t.ix)).bind fun ρ' => (evE G ek ρ' S').bind fun r => (evE G ev ρ' r.2).map fun q => (some (.tup [r.1, q.1]), q.2)) (xs.map f) S1 = some (xs.map fun x => .tup [gk x, gv x], S1) := by
    clear hi hl hm
    induction xs with
    | nil => rfl
    | cons x xs ih =>
      unfold compGo
      rw [List.map_cons]
      simp only
      obtain ⟨ρ', e1, e2, e3⟩ := hs x List.mem_cons_self
      simp only [e1, e2, e3, Option.bind_some, Option.map_some]
      rw [if_pos (by trivial), ih (fun y hy => hs y (List.mem_cons_of_mem _ hy))]
      simp
  rw [evE, if_pos no, hi]
  simp only [Option.bind_some, hlk]
  refine Eq.trans (congrArg (fun z => Option.bind z _) key) ?_
  simp only [Option.bind_some, freeS, List.length_map]
  rw [if_pos (by omega), hm]
  rfl
theorem in_ints (l : List Int) (x : Int) : cmpD .In (.int x) (.lst (l.map .int)) = some (decide (x ∈ l)) := by
  have h : fits (l.map D.int) = true := fits_map l D.int fun _ _ => ⟨by simp [D.plain], by simp [D.dep, D.py, PyData.depth]⟩
  have e : ((l.map D.int).any fun b => eqD b (.int x)) = decide (x ∈ l) := by
    rw [List.any_map, Bool.eq_iff_iff]
    simp [List.any_eq_true, Function.comp, eqD_int]
  simp only [cmpD, fit_int, h, Bool.and_self, if_true, e]
theorem ints_ne {xs ys : List Int} : cmpD .NotEq (.lst (xs.map .int)) (.lst (ys.map .int)) = some (!decide (xs = ys)) :=
  (cmpL (f := D.int) (I := fun _ => True) (fun x y _ _ => eqD_int x y) (fun x => ⟨by simp [D.plain], by simp [D.dep, D.py, PyData.depth]⟩) (fun _ _ => trivial) (fun _ _ => trivial)).2
theorem sortI_mem {l : List Int} {x : Int} : x ∈ sortI l ↔ x ∈ l := (List.mergeSort_perm _ _).mem_iff
theorem sortI_pw {l : List Int} (h : l.Nodup) : (sortI l).Pairwise (· < ·) := by
  have h1 : (sortI l).Pairwise (fun a b => decide (a ≤ b) = true) := List.pairwise_mergeSort (fun a b c h1 h2 => by simp at *; omega) (fun a b => by simp; omega) l
  have h2 : (sortI l).Nodup := (List.mergeSort_perm _ _).nodup_iff.mpr h
  exact h1.imp₂ (fun a b h1 h2 => by have := of_decide_eq_true h1; omega) h2
theorem sortI_len {l : List Int} : (sortI l).length = l.length := List.length_mergeSort _
end Z

set_option Elab.async false
set_option linter.all false
set_option maxRecDepth 100000
set_option maxHeartbeats 1000000
set_option exponentiation.threshold 4000
namespace Z
open PySem PySem.Spec PyProof.Rows L2
/-! # texts of small things: leaves bounded, nodes counted -/
def txI (i : Int) : Bool := decide (-1000000 ≤ i) && decide (i ≤ 1000000)
def txS (x : Str) : Bool := PyData.strOk (reprText x) && decide ((reprText x).length ≤ 1000)
def txK : Key → Bool
  | .inl i => txI i
  | .inr x => txS x
mutual
def D.lf : D → Bool
  | .non => true | .bl _ => true | .int i => txI i | .str x => txS x
  | .lst xs => lfs xs | .tup xs => lfs xs
  | .dK es => lfk es
  | .dT _ => false | .ref _ => false
def lfs : List D → Bool
  | [] => true
  | x :: xs => x.lf && lfs xs
def lfp : Key × D → Bool
  | (k, d) => txK k && d.lf
def lfk : List (Key × D) → Bool
  | [] => true
  | x :: xs => lfp x && lfk xs
end
mutual
def D.nd : D → Nat
  | .lst xs => 1 + nds xs | .tup xs => 1 + nds xs
  | .dK es => 1 + ndk es
  | .non => 1 | .bl _ => 1 | .int _ => 1 | .str _ => 1
  | .dT _ => 1 | .ref _ => 1
def nds : List D → Nat
  | [] => 0
  | x :: xs => x.nd + nds xs
def ndp : Key × D → Nat
  | (_, d) => 1 + d.nd
def ndk : List (Key × D) → Nat
  | [] => 0
  | x :: xs => ndp x + ndk xs
end
mutual
def D.dp : D → Nat
  | .lst xs => 1 + dps xs | .tup xs => 1 + dps xs
  | .dK es => 1 + dpk es
  | .non => 0 | .bl _ => 0 | .int _ => 0 | .str _ => 0
  | .dT _ => 0 | .ref _ => 0
def dps : List D → Nat
  | [] => 0
  | x :: xs => max x.dp (dps xs)
def dpp : Key × D → Nat
  | (_, d) => d.dp
def dpk : List (Key × D) → Nat
  | [] => 0
  | x :: xs => max (dpp x) (dpk xs)
end
theorem nd_pos : ∀ d : D, 1 ≤ d.nd
  | .lst _ => by rw [D.nd]; omega
  | .tup _ => by rw [D.nd]; omega
  | .dK _ => by rw [D.nd]; omega
  | .non => by rw [D.nd]; omega
  | .bl _ => by rw [D.nd]; omega
  | .int _ => by rw [D.nd]; omega
  | .str _ => by rw [D.nd]; omega
  | .dT _ => by rw [D.nd]; omega
  | .ref _ => by rw [D.nd]; omega
/-- all texts of a list together -/
def tot : List Str → Nat
  | [] => 0
  | t :: ts => t.length + 2 + tot ts
def Tx (m : Nat) (x : PyData) : Prop := x.showable = true ∧ PyData.strOk x.shown = true ∧ x.shown.length + 2 ≤ 1010 * m
theorem join_tot : ∀ ts : List Str, (∀ t ∈ ts, PyData.strOk t = true) → PyData.strOk (Str.join ", " ts) = true ∧ (Str.join ", " ts).length ≤ tot ts
  | [], _ => ⟨by decide +kernel, by rw [show Str.join ", " ([] : List Str) = Str.empty from rfl]; exact Nat.zero_le _⟩
  | [t], h => by
    rw [show Str.join ", " [t] = t from rfl]
    exact ⟨h t List.mem_cons_self, by simp [tot]⟩
  | t :: u :: r, h => by
    obtain ⟨c, d⟩ := join_tot (u :: r) fun z hz => h z (List.mem_cons_of_mem _ hz)
    rw [show Str.join ", " (t :: u :: r) = t ++ ", " ++ Str.join ", " (u :: r) from rfl]
    refine ⟨by rw [strOk_app, strOk_app, h t List.mem_cons_self, c]; decide +kernel, ?_⟩
    rw [len_app, len_app]
    have e : (", " : Str).length = 2 := rfl
    rw [e]
    rw [show tot (t :: u :: r) = t.length + 2 + tot (u :: r) from rfl]
    omega
theorem listText_tot {ts : List Str} (h : ∀ t ∈ ts, PyData.strOk t = true) : PyData.strOk (listText ts) = true ∧ (listText ts).length ≤ tot ts + 2 := by
  obtain ⟨a, b⟩ := join_tot ts h
  rw [listText_eq_join]
  refine ⟨by rw [strOk_app, strOk_app, a]; decide +kernel, ?_⟩
  rw [len_app, len_app]
  have e : ("[" : Str).length = 1 := rfl
  have e2 : ("]" : Str).length = 1 := rfl
  rw [e, e2]; omega
theorem dictText_tot {ts : List Str} (h : ∀ t ∈ ts, PyData.strOk t = true) : PyData.strOk (dictText ts) = true ∧ (dictText ts).length ≤ tot ts + 2 := by
  obtain ⟨a, b⟩ := join_tot ts h
  unfold dictText
  refine ⟨by rw [strOk_app, strOk_app, a]; decide +kernel, ?_⟩
  rw [len_app, len_app]
  have e : ("{" : Str).length = 1 := rfl
  have e2 : (("}" : String) : Str).length = 1 := rfl
  rw [e, e2]; omega
theorem tupleText_tot {ts : List Str} (h : ∀ t ∈ ts, PyData.strOk t = true) : PyData.strOk (tupleText ts) = true ∧ (tupleText ts).length ≤ tot ts + 3 := by
  obtain ⟨a, b⟩ := join_tot ts h
  unfold tupleText
  by_cases c : (ts.length == 1) = true
  · rw [if_pos c]
    refine ⟨by rw [strOk_app, strOk_app, a]; decide +kernel, ?_⟩
    rw [len_app, len_app]
    have e : ("(" : Str).length = 1 := rfl
    have e2 : ((",)" : String) : Str).length = 2 := rfl
    rw [e, e2]; omega
  · rw [if_neg c]
    refine ⟨by rw [strOk_app, strOk_app, a]; decide +kernel, ?_⟩
    rw [len_app, len_app]
    have e : ("(" : Str).length = 1 := rfl
    have e2 : ((")" : String) : Str).length = 1 := rfl
    rw [e, e2]; omega
theorem tx_int {i : Int} (h : txI i = true) : Tx 1 (.int i) := by
  unfold txI at h
  simp only [Bool.and_eq_true, decide_eq_true_eq] at h
  obtain ⟨h1, h2⟩ := h
  have h3 : i.natAbs < 2 ^ 1920 := Nat.lt_of_lt_of_le (show i.natAbs < 2 ^ 20 by omega) (Nat.pow_le_pow_right (by decide) (by decide))
  refine ⟨?_, ?_, ?_⟩
  · simp only [PyData.showable, decide_eq_true_eq]
    by_cases h0 : i.natAbs = 0
    · rw [h0]; decide
    · exact (Nat.log2_lt h0).mpr h3
  · unfold PyData.strOk
    rw [← Array.all_toList, List.all_eq_true]
    intro c hc
    rw [decide_eq_true_eq]
    by_cases hk : c ≠ 45 ∧ (c < 48 ∨ 57 < c)
    · exact absurd hc (shown_int_free' hk i)
    · omega
  · have := PyData.shown_int_le2 (i := i) (by omega) (by omega)
    omega
theorem tx_str {x : Str} (h : txS x = true) : Tx 1 (.str x) := by
  unfold txS at h
  simp only [Bool.and_eq_true, decide_eq_true_eq] at h
  exact ⟨by simp [PyData.showable], by simpa [PyData.shown] using h.1, by simp only [PyData.shown]; omega⟩
theorem tx_key {k : Key} (h : txK k = true) : Tx 1 (keyP k) := by
  cases k with
  | inl i => exact tx_int h
  | inr x => exact tx_str h
mutual
theorem tx_of : ∀ d : D, d.lf = true → Tx d.nd d.pyr
  | .non, _ => by rw [D.pyr, D.nd]; exact ⟨by decide +kernel, by decide +kernel, by decide +kernel⟩
  | .bl b, _ => by rw [D.pyr, D.nd]; cases b <;> exact ⟨by decide +kernel, by decide +kernel, by decide +kernel⟩
  | .int i, h => by rw [D.pyr, D.nd]; rw [D.lf] at h; exact tx_int h
  | .str x, h => by rw [D.pyr, D.nd]; rw [D.lf] at h; exact tx_str h
  | .lst xs, h => by
    rw [D.lf] at h
    obtain ⟨a, b, c⟩ := txs_of xs h
    rw [D.pyr, D.nd]
    have := listText_tot b
    exact ⟨by simpa [PyData.showable] using a, by simpa only [PyData.shown] using this.1, by simp only [PyData.shown]; omega⟩
  | .tup xs, h => by
    rw [D.lf] at h
    obtain ⟨a, b, c⟩ := txs_of xs h
    rw [D.pyr, D.nd]
    have := tupleText_tot b
    exact ⟨by simpa [PyData.showable] using a, by simpa only [PyData.shown] using this.1, by simp only [PyData.shown]; omega⟩
  | .dK es, h => by
    rw [D.lf] at h
    obtain ⟨a, b, c⟩ := txk_of es h
    rw [D.pyr, D.nd]
    have := dictText_tot b
    exact ⟨by simpa [PyData.showable] using a, by simpa only [PyData.shown] using this.1, by simp only [PyData.shown]; omega⟩
  | .dT _, h => by rw [D.lf] at h; cases h
  | .ref _, h => by rw [D.lf] at h; cases h
theorem txs_of : ∀ xs : List D, lfs xs = true → PyData.showableAll (pyrs xs) = true ∧ (∀ t ∈ PyData.shownAll (pyrs xs), PyData.strOk t = true) ∧ tot (PyData.shownAll (pyrs xs)) ≤ 1010 * nds xs
  | [], _ => ⟨by simp [pyrs, PyData.showableAll], fun t h => by simp [pyrs, PyData.shownAll] at h, by simp [pyrs, PyData.shownAll, tot]⟩
  | x :: xs, h => by
    rw [lfs, Bool.and_eq_true] at h
    obtain ⟨a, b, c⟩ := txs_of xs h.2
    obtain ⟨d, e, f⟩ := tx_of x h.1
    rw [pyrs, nds]
    refine ⟨by simp [PyData.showableAll, a, d], fun t ht => ?_, ?_⟩
    · simp only [PyData.shownAll, List.mem_cons] at ht
      rcases ht with rfl | ht
      · exact e
      · exact b t ht
    · rw [PyData.shownAll, tot]; omega
theorem txk_of : ∀ es : List (Key × D), lfk es = true → PyData.showableKv (pyrk es) = true ∧ (∀ t ∈ PyData.shownKv (pyrk es), PyData.strOk t = true) ∧ tot (PyData.shownKv (pyrk es)) ≤ 1010 * ndk es
  | [], _ => ⟨by simp [pyrk, PyData.showableKv], fun t h => by simp [pyrk, PyData.shownKv] at h, by simp [pyrk, PyData.shownKv, tot]⟩
  | (k, x) :: xs, h => by
    rw [lfk, lfp, Bool.and_eq_true, Bool.and_eq_true] at h
    obtain ⟨a, b, c⟩ := txk_of xs h.2
    obtain ⟨d, e, f⟩ := tx_of x h.1.2
    obtain ⟨d', e', f'⟩ := tx_key h.1.1
    rw [pyrk, pyrp, ndk, ndp]
    refine ⟨by simp [PyData.showableKv, a, d, d'], fun t ht => ?_, ?_⟩
    · simp only [PyData.shownKv, List.mem_cons] at ht
      rcases ht with rfl | ht
      · rw [strOk_app, strOk_app, e, e']; decide +kernel
      · exact b t ht
    · have e2 : ((": " : String) : Str).length = 2 := rfl
      rw [PyData.shownKv, tot, len_app, len_app, e2]; omega
end
mutual
theorem shw_of : ∀ d : D, d.lf = true → d.shw = true
  | .non, _ => by simp [D.shw]
  | .bl b, _ => by simp [D.shw]
  | .int i, h => by simp [D.shw]
  | .str x, h => by simp [D.shw]
  | .lst xs, h => by rw [D.lf] at h; rw [D.shw]; exact shws_of xs h
  | .tup xs, h => by rw [D.lf] at h; rw [D.shw]; exact shws_of xs h
  | .dK es, h => by rw [D.lf] at h; rw [D.shw]; exact shwk_of es h
  | .dT _, h => by rw [D.lf] at h; cases h
  | .ref _, h => by rw [D.lf] at h; cases h
theorem shws_of : ∀ xs : List D, lfs xs = true → shws xs = true
  | [], _ => by simp [shws]
  | x :: xs, h => by
    rw [lfs, Bool.and_eq_true] at h
    rw [shws, shw_of x h.1, shws_of xs h.2]; rfl
theorem shwk_of : ∀ es : List (Key × D), lfk es = true → shwk es = true
  | [], _ => by simp [shwk]
  | (k, x) :: xs, h => by
    rw [lfk, lfp, Bool.and_eq_true, Bool.and_eq_true] at h
    rw [shwk, shwp, shw_of x h.1.2, shwk_of xs h.2]; rfl
end
theorem dep_key (k : Key) : (keyP k).depth = 0 := by cases k <;> simp [keyP, PyData.depth]
mutual
theorem dep_of : ∀ d : D, d.pyr.depth = d.dp
  | .non => by simp [D.pyr, D.dp, PyData.depth]
  | .bl b => by simp [D.pyr, D.dp, PyData.depth]
  | .int i => by simp [D.pyr, D.dp, PyData.depth]
  | .str x => by simp [D.pyr, D.dp, PyData.depth]
  | .lst xs => by rw [D.pyr, D.dp, PyData.depth, deps_of xs]; omega
  | .tup xs => by rw [D.pyr, D.dp, PyData.depth, deps_of xs]; omega
  | .dK es => by rw [D.pyr, D.dp, PyData.depth, depk_of es]; omega
  | .dT _ => by simp [D.pyr, D.dp, PyData.depth]
  | .ref _ => by simp [D.pyr, D.dp, PyData.depth]
theorem deps_of : ∀ xs : List D, PyData.depthAll (pyrs xs) = dps xs
  | [] => by simp [pyrs, PyData.depthAll, dps]
  | x :: xs => by rw [pyrs, PyData.depthAll, dps, dep_of x, deps_of xs]
theorem depk_of : ∀ es : List (Key × D), PyData.depthKv (pyrk es) = dpk es
  | [] => by simp [pyrk, PyData.depthKv, dpk]
  | (k, x) :: xs => by rw [pyrk, pyrp, PyData.depthKv, dpk, dpp, dep_of x, depk_of xs, dep_key]; omega
end
mutual
theorem pyr_py : ∀ d : D, d.plain = true → d.pyr = d.py
  | .non, _ => by rw [D.pyr, D.py]
  | .bl b, _ => by rw [D.pyr, D.py]
  | .int i, _ => by rw [D.pyr, D.py]
  | .str x, _ => by rw [D.pyr, D.py]
  | .lst xs, h => by rw [D.plain] at h; rw [D.pyr, D.py, pyrs_py xs h]
  | .tup xs, h => by rw [D.plain] at h; rw [D.pyr, D.py, pyrs_py xs h]
  | .dK es, h => by rw [D.plain] at h; cases h
  | .dT _, h => by rw [D.plain] at h; cases h
  | .ref _, h => by rw [D.plain] at h; cases h
theorem pyrs_py : ∀ xs : List D, plains xs = true → pyrs xs = pys xs
  | [], _ => by rw [pyrs, pys]
  | x :: xs, h => by
    rw [plains, Bool.and_eq_true] at h
    rw [pyrs, pys, pyr_py x h.1, pyrs_py xs h.2]
end
/-- repr of what is small: a good text -/
theorem repr_small {d : D} (hq : isSeqD d = true) (hl : d.lf = true) (hd : d.dp ≤ 60) (hn : d.nd ≤ 10000) : ∃ x : Str, bltD .repr [d] = some (.str x) ∧ PyData.strOk x = true := by
  have big : (10100000 : Nat) ≤ sizeLine := by decide
  obtain ⟨a, b, c⟩ := tx_of d hl
  simp only [bltD]
  split
  · rename_i h
    refine ⟨_, rfl, ?_⟩
    rw [← pyr_py d (fit_plain h.1)]; exact b
  · refine ⟨d.pyr.shown, ?_, b⟩
    unfold reprD' okShw
    rw [hq, shw_of d hl, dep_of d, a]
    rw [if_pos]
    simp only [Bool.and_eq_true, decide_eq_true_eq]
    exact ⟨trivial, trivial, hd, trivial, by omega⟩
theorem lfs_map {α : Type} (f : α → D) : ∀ xs : List α, (∀ x ∈ xs, (f x).lf = true) → lfs (xs.map f) = true
  | [], _ => by simp [lfs]
  | x :: xs, h => by
    rw [List.map_cons, lfs, h x List.mem_cons_self, lfs_map f xs fun y hy => h y (List.mem_cons_of_mem _ hy)]; rfl
theorem nds_map {α : Type} (f : α → D) {k : Nat} : ∀ xs : List α, (∀ x ∈ xs, (f x).nd ≤ k) → nds (xs.map f) ≤ xs.length * k
  | [], _ => by simp [nds]
  | x :: xs, h => by
    have h1 := h x List.mem_cons_self
    have h2 := nds_map f xs fun y hy => h y (List.mem_cons_of_mem _ hy)
    rw [List.map_cons, nds, List.length_cons, Nat.add_mul, Nat.one_mul]; omega
theorem dps_map {α : Type} (f : α → D) {k : Nat} : ∀ xs : List α, (∀ x ∈ xs, (f x).dp ≤ k) → dps (xs.map f) ≤ k
  | [], _ => by simp [dps]
  | x :: xs, h => by
    have h1 := h x List.mem_cons_self
    have h2 := dps_map f xs fun y hy => h y (List.mem_cons_of_mem _ hy)
    rw [List.map_cons, dps]; omega
theorem lfk_map {α : Type} (f : α → Key × D) : ∀ xs : List α, (∀ x ∈ xs, txK (f x).1 = true ∧ (f x).2.lf = true) → lfk (xs.map f) = true
  | [], _ => by simp [lfk]
  | x :: xs, h => by
    rw [List.map_cons, lfk, lfp, (h x List.mem_cons_self).1, (h x List.mem_cons_self).2, lfk_map f xs fun y hy => h y (List.mem_cons_of_mem _ hy)]; rfl
theorem ndk_map {α : Type} (f : α → Key × D) {k : Nat} : ∀ xs : List α, (∀ x ∈ xs, (f x).2.nd ≤ k) → ndk (xs.map f) ≤ xs.length * (k + 1)
  | [], _ => by simp [ndk]
  | x :: xs, h => by
    have h1 := h x List.mem_cons_self
    have h2 := ndk_map f xs fun y hy => h y (List.mem_cons_of_mem _ hy)
    rw [List.map_cons, ndk, ndp, List.length_cons, Nat.add_mul, Nat.one_mul]; omega
theorem dpk_map {α : Type} (f : α → Key × D) {k : Nat} : ∀ xs : List α, (∀ x ∈ xs, (f x).2.dp ≤ k) → dpk (xs.map f) ≤ k
  | [], _ => by simp [dpk]
  | x :: xs, h => by
    have h1 := h x List.mem_cons_self
    have h2 := dpk_map f xs fun y hy => h y (List.mem_cons_of_mem _ hy)
    rw [List.map_cons, dpk, dpp]; omega
end Z

set_option Elab.async false
set_option linter.all false
set_option maxRecDepth 100000
set_option maxHeartbeats 4000000
namespace K32
open PySem PySem.Spec PyProof.Rows L2 Z
def top (i : Nat) : Stmt := PySem.Challenge.pw_intentstore_k32_rings_and_victims.main.body.getD i (.Pass ⟨0, 0, 0, 0⟩)
def inCls : Stmt → List Stmt
  | .ClassDef _ _ _ b _ _ _ _ _ _ _ => b
  | _ => []
def meth (i j : Nat) : Stmt := (inCls (top i)).getD j (.Pass ⟨0, 0, 0, 0⟩)
def b_reached : Sms :=
      (.cons (.own 2 (.dnew false))
      (.cons (.own 3 (.list (.cons (.var 1) .nil)))
      (.cons (.while_ (.cmp .Gt (.blt .len (.cons (.var 3) .nil)) (.cst (.int 0))) (.cons (.pop (some (.nm 4)) (.var 3) .nil)
      (.cons (.for_ (.nms [5, 6]) (.seq (.var 0)) (.cons (.ife (.and (.cmp .Eq (.var 5) (.var 4)) (.cmp .NotIn (.var 6) (.var 2))) (.cons (.seti (.var 2) (.var 6) (.cst (.bl true)))
      (.cons (.app (.var 3) (.var 6))
      .nil)) .nil)
      .nil))
      .nil)))
      (.cons (.ret (.blt .sorted (.cons (.var 2) .nil)))
      .nil))))
def b_in_rings : Sms :=
      (.cons (.asg (.nm 1) (.blt .sorted (.cons (.dcomp (.nm 3) (.seq (.var 0)) .nil (.idx (.var 3) (.cst (.int 0))) (.cst (.bl true))) .nil)))
      (.cons (.ret (.comp (.nm 2) (.seq (.var 1)) (.cons (.cmp .In (.var 2) (.call "reached" (.cons (.var 0) (.cons (.var 2) .nil)))) .nil) (.var 2)))
      .nil))
def b_victim : Sms :=
      (.cons (.asg (.nm 2) (.comp (.nm 3) (.seq (.call "in_rings" (.cons (.var 0) .nil))) .nil (.tup (.cons (.getd (.var 1) (.var 3) (.cst (.int 0))) (.cons (.var 3) .nil)))))
      (.cons (.ret (.ife (.cmp .Gt (.blt .len (.cons (.var 2) .nil)) (.cst (.int 0))) (.idx (.blt .min (.cons (.var 2) .nil)) (.cst (.int 1))) (.cst .non)))
      .nil))
def b__law_state : Sms :=
      (.cons (.asg (.nm 1) (.cst (.int 7)))
      (.cons (.for_ (.nm 2) (.seq (.var 0)) (.cons (.asg (.nm 1) (.bin .Mod (.blt .int (.cons (.bin .Add (.bin .Mult (.var 1) (.cst (.int 31))) (.var 2)) .nil)) (.cst (.int 1000003))))
      .nil))
      (.cons (.ret (.mref (.list (.cons (.mref (.comp (.nm 2) (.seq (.var 0)) .nil (.blt .abs (.cons (.var 2) .nil)))) (.cons (.bin .Add (.var 1) (.cst (.int 1))) .nil)))))
      .nil)))
def b__law_draw : Sms :=
      (.cons (.ife (.cmp .Lt (.var 1) (.cst (.int 1))) (.cons (.ret (.cst (.int 0)))
      .nil) .nil)
      (.cons (.asg (.nm 2) (.idx (.var 0) (.cst (.int 0))))
      (.cons (.while_ (.and (.cmp .Gt (.blt .len (.cons (.var 2) .nil)) (.cst (.int 0))) (.cmp .Eq (.idx (.var 2) (.cst (.int 0))) (.cst (.int 0)))) (.cons (.pop none (.var 2) (.cons (.cst (.int 0)) .nil))
      .nil))
      (.cons (.ife (.cmp .Gt (.blt .len (.cons (.var 2) .nil)) (.cst (.int 0))) (.cons (.asg (.nm 4) (.idx (.var 2) (.cst (.int 0))))
      (.cons (.seti (.var 2) (.cst (.int 0)) (.bin .FloorDiv (.var 4) (.var 1)))
      (.cons (.ret (.bin .Mod (.blt .int (.cons (.var 4) .nil)) (.var 1)))
      .nil))) .nil)
      (.cons (.asg (.nm 3) (.bin .Mod (.blt .int (.cons (.bin .Add (.bin .Mult (.idx (.var 0) (.cst (.int 1))) (.cst (.int 48271))) (.cst (.int 12345))) .nil)) (.cst (.int 2147483647))))
      (.cons (.seti (.var 0) (.cst (.int 1)) (.var 3))
      (.cons (.ret (.bin .Mod (.blt .int (.cons (.bin .FloorDiv (.var 3) (.cst (.int 64))) .nil)) (.var 1)))
      .nil)))))))
def b__law_pick : Sms :=
      (.cons (.ret (.idx (.var 1) (.call "_law_draw" (.cons (.var 0) (.cons (.blt .len (.cons (.var 1) .nil)) .nil)))))
      .nil)
def b__law_closure : Sms :=
      (.cons (.own 2 (.dnew true))
      (.cons (.for_ (.nm 3) (.seq (.var 1)) (.cons (.for_ (.nm 5) (.seq (.var 1)) (.cons (.seti (.var 2) (.tup (.cons (.var 3) (.cons (.var 5) .nil))) (.cmp .In (.tup (.cons (.var 3) (.cons (.var 5) .nil))) (.var 0)))
      .nil))
      .nil))
      (.cons (.for_ (.nm 4) (.seq (.var 1)) (.cons (.for_ (.nm 3) (.seq (.var 1)) (.cons (.for_ (.nm 5) (.seq (.var 1)) (.cons (.seti (.var 2) (.tup (.cons (.var 3) (.cons (.var 5) .nil))) (.or (.idx (.var 2) (.tup (.cons (.var 3) (.cons (.var 5) .nil)))) (.and (.idx (.var 2) (.tup (.cons (.var 3) (.cons (.var 4) .nil)))) (.idx (.var 2) (.tup (.cons (.var 4) (.cons (.var 5) .nil)))))))
      .nil))
      .nil))
      .nil))
      (.frz 2 (.cons (.ret (.var 2))
      .nil)))))
def b_law : Sms :=
      (.cons (.asg (.nm 1) (.call "_law_state" (.cons (.var 0) .nil)))
      (.cons (.asg (.nm 2) (.sl (.list (.cons (.cst (.int 1)) (.cons (.cst (.int 2)) (.cons (.cst (.int 3)) (.cons (.cst (.int 5)) (.cons (.cst (.int 8)) (.cons (.cst (.int 13)) (.cons (.cst (.int 40)) .nil)))))))) .nil (.cons (.bin .Add (.cst (.int 2)) (.call "_law_draw" (.cons (.var 1) (.cons (.cst (.int 6)) .nil)))) .nil)))
      (.cons (.own 3 (.list .nil))
      (.cons (.for_ (.nm 4) (.rng (.call "_law_draw" (.cons (.var 1) (.cons (.cst (.int 15)) .nil)))) (.cons (.asg (.nm 6) (.call "_law_pick" (.cons (.var 1) (.cons (.var 2) .nil))))
      (.cons (.app (.var 3) (.tup (.cons (.var 6) (.cons (.call "_law_pick" (.cons (.var 1) (.cons (.comp (.nm 13) (.seq (.var 2)) (.cons (.cmp .NotEq (.var 13) (.var 6)) .nil) (.var 13)) .nil))) .nil))))
      .nil)))
      (.cons (.own 5 (.dnew false))
      (.cons (.for_ (.nm 6) (.seq (.var 2)) (.cons (.ife (.cmp .Gt (.call "_law_draw" (.cons (.var 1) (.cons (.cst (.int 4)) .nil))) (.cst (.int 0))) (.cons (.seti (.var 5) (.var 6) (.call "_law_pick" (.cons (.var 1) (.cons (.list (.cons (.cst (.int 1)) (.cons (.cst (.int 5)) (.cons (.cst (.int 5)) (.cons (.cst (.int 1000)) .nil))))) .nil))))
      .nil) .nil)
      .nil))
      (.frz 5 (.frz 3 (.cons (.asg (.nm 7) (.blt .repr (.cons (.list (.cons (.var 3) (.cons (.var 5) .nil))) .nil)))
      (.cons (.for_ (.nm 8) (.rng (.bin .Add (.blt .len (.cons (.var 2) .nil)) (.cst (.int 1)))) (.cons (.asg (.nm 9) (.call "_law_closure" (.cons (.var 3) (.cons (.var 2) .nil))))
      (.cons (.asg (.nm 10) (.comp (.nm 6) (.seq (.var 2)) (.cons (.idx (.var 9) (.tup (.cons (.var 6) (.cons (.var 6) .nil)))) .nil) (.var 6)))
      (.cons (.ife (.cmp .NotEq (.call "in_rings" (.cons (.blt .list (.cons (.var 3) .nil)) .nil)) (.var 10)) (.cons (.ret (.cst (.bl false)))
      .nil) .nil)
      (.cons (.asg (.nm 11) (.cst .non))
      (.cons (.for_ (.nm 6) (.seq (.var 10)) (.cons (.ife (.or (.iso false (.var 11) (.cst .non)) (.cmp .Lt (.getd (.var 5) (.var 6) (.cst (.int 0))) (.getd (.var 5) (.var 11) (.cst (.int 0))))) (.cons (.asg (.nm 11) (.var 6))
      .nil) .nil)
      .nil))
      (.cons (.ife (.cmp .NotEq (.call "victim" (.cons (.blt .list (.cons (.var 3) .nil)) (.cons (.var 5) .nil))) (.var 11)) (.cons (.ret (.cst (.bl false)))
      .nil) .nil)
      (.cons (.ife (.and (.cmp .Eq (.var 8) (.cst (.int 0))) (.cmp .NotEq (.blt .repr (.cons (.list (.cons (.var 3) (.cons (.var 5) .nil))) .nil)) (.var 7))) (.cons (.ret (.cst (.bl false)))
      .nil) .nil)
      (.cons (.ife (.iso false (.var 11) (.cst .non)) (.cons (.ret (.cst (.bl true)))
      .nil) .nil)
      (.cons (.asg (.nm 3) (.comp (.nm 12) (.seq (.var 3)) (.cons (.cmp .NotIn (.var 11) (.var 12)) .nil) (.var 12)))
      .nil))))))))))
      (.cons (.ret (.cst (.bl false)))
      .nil)))))))))))
def r_reached : DefR := ⟨⟨("reached", none), "reached", "reached", defArgs (top 1), defBody (top 1), defScope (top 1), [], []⟩, ["edges", "start", "found", "waiting", "one", "waiter", "holder"], 2, b_reached⟩
def r_in_rings : DefR := ⟨⟨("in_rings", none), "in_rings", "in_rings", defArgs (top 2), defBody (top 2), defScope (top 2), [], []⟩, ["edges", "ids", "one", "edge"], 1, b_in_rings⟩
def r_victim : DefR := ⟨⟨("victim", none), "victim", "victim", defArgs (top 3), defBody (top 3), defScope (top 3), [], []⟩, ["edges", "priorities", "found", "one"], 2, b_victim⟩
def r__law_state : DefR := ⟨⟨("_law_state", none), "_law_state", "_law_state", defArgs (top 5), defBody (top 5), defScope (top 5), [], []⟩, ["script", "seed", "cell"], 1, b__law_state⟩
def r__law_draw : DefR := ⟨⟨("_law_draw", none), "_law_draw", "_law_draw", defArgs (top 6), defBody (top 6), defScope (top 6), [], []⟩, ["state", "many", "cells", "mixed", "value"], 2, b__law_draw⟩
def r__law_pick : DefR := ⟨⟨("_law_pick", none), "_law_pick", "_law_pick", defArgs (top 7), defBody (top 7), defScope (top 7), [], []⟩, ["state", "row"], 2, b__law_pick⟩
def r__law_closure : DefR := ⟨⟨("_law_closure", none), "_law_closure", "_law_closure", defArgs (top 8), defBody (top 8), defScope (top 8), [], []⟩, ["edges", "ids", "reach", "one", "middle", "other"], 2, b__law_closure⟩
def r_law : DefR := ⟨⟨("law", none), "law", "law", defArgs (top 9), defBody (top 9), defScope (top 9), [], []⟩, ["script", "state", "ids", "edges", "k", "priorities", "one", "kept", "turn", "reach", "rings", "due", "edge", "other"], 1, b_law⟩
def conf : Conf := ⟨[r_reached, r_in_rings, r_victim, r__law_state, r__law_draw, r__law_pick, r__law_closure, r_law], [], ["sorted", "len", "min", "abs", "int", "range", "repr", "list"], []⟩
end K32

set_option Elab.async false
set_option linter.all false
namespace A32
abbrev E := List (Int × Int)
inductive Path (es : E) : Int → Int → Prop
  | one {a b} : (a, b) ∈ es → Path es a b
  | snoc {a b c} : Path es a b → (b, c) ∈ es → Path es a c
theorem Path.mono {es fs : E} (h : ∀ e ∈ es, e ∈ fs) {a b : Int} (p : Path es a b) : Path fs a b := by
  induction p with
  | one h1 => exact .one (h _ h1)
  | snoc _ h1 ih => exact .snoc ih (h _ h1)
theorem Path.last {es : E} {a b : Int} (p : Path es a b) : ∃ c, (c, b) ∈ es := by
  cases p with
  | one h => exact ⟨_, h⟩
  | snoc _ h => exact ⟨_, h⟩
theorem Path.first {es : E} {a b : Int} (p : Path es a b) : ∃ c, (a, c) ∈ es := by
  induction p with
  | one h => exact ⟨_, h⟩
  | snoc _ _ ih => exact ih
/-! ## reached -/
def stepE (one : Int) (q : List Int × List Int) (e : Int × Int) : List Int × List Int := if e.1 = one ∧ e.2 ∉ q.1 then (q.1 ++ [e.2], q.2 ++ [e.2]) else q
structure Inv (es : E) (start : Int) (f w : List Int) : Prop where
  nd : f.Nodup
  path : ∀ x ∈ f, Path es start x
  cl : ∀ y, (y = start ∨ y ∈ f) → y ∈ w ∨ ∀ b, (y, b) ∈ es → b ∈ f
  wf : ∀ y ∈ w, y = start ∨ y ∈ f
structure Mid (es : E) (start one : Int) (p : E) (q : List Int × List Int) : Prop where
  nd : q.1.Nodup
  path : ∀ x ∈ q.1, Path es start x
  cl : ∀ y, (y = start ∨ y ∈ q.1) → y ∈ q.2 ∨ y = one ∨ ∀ b, (y, b) ∈ es → b ∈ q.1
  wf : ∀ y ∈ q.2, y = start ∨ y ∈ q.1
  on : one = start ∨ one ∈ q.1
  seen : ∀ b, (one, b) ∈ p → b ∈ q.1
theorem inv_start (es : E) (start : Int) : Inv es start [] [start] := ⟨List.nodup_nil, fun x h => by simp at h, fun y h => by
  rcases h with rfl | h
  · exact .inl (by simp)
  · simp at h, fun y h => .inl (by simpa using h)⟩
theorem mid_start {es : E} {start one : Int} {f w : List Int} (I : Inv es start f (w ++ [one])) : Mid es start one [] (f, w) := ⟨I.nd, I.path, fun y h => by
  rcases I.cl y h with h | h
  · rcases List.mem_append.mp h with h | h
    · exact .inl h
    · exact .inr (.inl (by simpa using h))
  · exact .inr (.inr h), fun y h => I.wf y (List.mem_append_left _ h), I.wf one (by simp), fun b h => by simp at h⟩
theorem mid_step {es : E} {start one : Int} {p : E} {q : List Int × List Int} {e : Int × Int} (M : Mid es start one p q) (he : e ∈ es) : Mid es start one (p ++ [e]) (stepE one q e) := by
  unfold stepE
  by_cases c : e.1 = one ∧ e.2 ∉ q.1
  · rw [if_pos c]
    obtain ⟨c1, c2⟩ := c
    have hp : Path es start e.2 := by
      rcases M.on with h | h
      · exact .one (by rw [← h, ← c1]; exact he)
      · exact .snoc (M.path _ h) (by rw [← c1]; exact he)
    refine ⟨?_, ?_, ?_, ?_, ?_, ?_⟩
    · exact List.nodup_append.mpr ⟨M.nd, by simp, fun a ha b hb => by
        simp at hb
        subst hb
        exact fun z => c2 (z ▸ ha)⟩
    · intro x hx
      rcases List.mem_append.mp hx with hx | hx
      · exact M.path x hx
      · simp at hx; rw [hx]; exact hp
    · intro y hy
      show y ∈ q.2 ++ [e.2] ∨ _
      by_cases hye : y = e.2
      · exact .inl (by simp [hye])
      · have hy' : y = start ∨ y ∈ q.1 := hy.imp id fun h => by
          rcases List.mem_append.mp h with h | h
          · exact h
          · simp at h; exact absurd h hye
        rcases M.cl y hy' with h | h | h
        · exact .inl (List.mem_append_left _ h)
        · exact .inr (.inl h)
        · exact .inr (.inr fun b hb => List.mem_append_left _ (h b hb))
    · intro y hy
      rcases List.mem_append.mp hy with hy | hy
      · exact (M.wf y hy).imp id fun h => List.mem_append_left _ h
      · exact .inr (List.mem_append_right _ hy)
    · exact M.on.imp id fun h => List.mem_append_left _ h
    · intro b hb
      rcases List.mem_append.mp hb with hb | hb
      · exact List.mem_append_left _ (M.seen b hb)
      · simp at hb
        exact List.mem_append_right _ (by simp [← hb])
  · rw [if_neg c]
    refine ⟨M.nd, M.path, M.cl, M.wf, M.on, fun b hb => ?_⟩
    rcases List.mem_append.mp hb with hb | hb
    · exact M.seen b hb
    · simp at hb
      rw [← hb] at c
      exact Decidable.byContradiction fun z => c ⟨rfl, z⟩
theorem mid_end {es : E} {start one : Int} {q : List Int × List Int} (M : Mid es start one es q) : Inv es start q.1 q.2 := ⟨M.nd, M.path, fun y h => by
  rcases M.cl y h with h | h | h
  · exact .inl h
  · exact .inr fun b hb => M.seen b (by rw [← h]; exact hb)
  · exact .inr h, M.wf⟩
theorem step_len {one : Int} {q : List Int × List Int} {e : Int × Int} : (stepE one q e).2.length + q.1.length = q.2.length + (stepE one q e).1.length := by
  unfold stepE
  split
  · simp; omega
  · rfl
theorem nodup_len : ∀ (f l : List Int), f.Nodup → (∀ x ∈ f, x ∈ l) → f.length ≤ l.length
  | [], _, _, _ => Nat.zero_le _
  | x :: f, l, hn, h => by
    obtain ⟨h1, h2⟩ := List.nodup_cons.mp hn
    have hx := h x List.mem_cons_self
    have hl := List.length_erase_of_mem hx
    have hp : 0 < l.length := List.length_pos_of_mem hx
    have := nodup_len f (l.erase x) h2 fun y hy => (List.mem_erase_of_ne (show y ≠ x from fun z => h1 (z ▸ hy))).mpr (h y (List.mem_cons_of_mem _ hy))
    simp only [List.length_cons]; omega
theorem paths_len {es : E} {start : Int} {f : List Int} (nd : f.Nodup) (path : ∀ x ∈ f, Path es start x) : f.length ≤ es.length := by
  have := nodup_len f (es.map (·.2)) nd fun x hx => by
    obtain ⟨c, h⟩ := (path x hx).last
    exact List.mem_map.mpr ⟨_, h, rfl⟩
  simpa using this
theorem inv_end {es : E} {start : Int} {f : List Int} (I : Inv es start f []) (x : Int) : x ∈ f ↔ Path es start x := by
  refine ⟨I.path x, fun p => ?_⟩
  have cl : ∀ y, (y = start ∨ y ∈ f) → ∀ b, (y, b) ∈ es → b ∈ f := fun y h => (I.cl y h).resolve_left (by simp)
  induction p with
  | one h => exact cl _ (.inl rfl) _ h
  | snoc _ h ih => exact cl _ (.inr ih) _ h
/-! ## the closure -/
abbrev M := Int → Int → Bool
def setR (R : M) (i j : Int) (b : Bool) : M := fun a c => if a = i ∧ c = j then b else R a c
def W (m : Int) (R : M) : M := fun a c => R a c || (R a m && R m c)
/-- a phase under way -/
def part (m : Int) (R : M) (p : List Int) (o : Int) (q : List Int) : M := fun a c => if a ∈ p ∨ (a = o ∧ c ∈ q) then W m R a c else R a c
theorem part_col {m : Int} {R : M} {p : List Int} {o : Int} {q : List Int} (i : Int) : part m R p o q i m = R i m := by
  unfold part W
  split
  · cases R i m <;> simp
  · rfl
theorem part_row {m : Int} {R : M} {p : List Int} {o : Int} {q : List Int} (j : Int) : part m R p o q m j = R m j := by
  unfold part W
  split
  · cases R m j <;> simp
  · rfl
theorem part_step {m : Int} {R : M} {p : List Int} {o j : Int} {q : List Int} : setR (part m R p o q) o j (part m R p o q o j || (part m R p o q o m && part m R p o q m j)) = part m R p o (q ++ [j]) := by
  rw [part_col, part_row]
  funext a c
  unfold setR
  by_cases h : a = o ∧ c = j
  · rw [if_pos h]
    obtain ⟨rfl, rfl⟩ := h
    unfold part
    rw [if_pos (show a ∈ p ∨ (a = a ∧ c ∈ q ++ [c]) from .inr ⟨rfl, by simp⟩)]
    split
    · unfold W
      cases R a c <;> cases R a m <;> cases R m c <;> rfl
    · rfl
  · rw [if_neg h]
    unfold part
    have : (a ∈ p ∨ (a = o ∧ c ∈ q ++ [j])) ↔ (a ∈ p ∨ (a = o ∧ c ∈ q)) := by
      constructor
      · rintro (h1 | ⟨h1, h2⟩)
        · exact .inl h1
        · rcases List.mem_append.mp h2 with h2 | h2
          · exact .inr ⟨h1, h2⟩
          · simp at h2; exact absurd ⟨h1, h2⟩ h
      · rintro (h1 | ⟨h1, h2⟩)
        · exact .inl h1
        · exact .inr ⟨h1, List.mem_append_left _ h2⟩
    by_cases c1 : a ∈ p ∨ (a = o ∧ c ∈ q)
    · rw [if_pos c1, if_pos (this.mpr c1)]
    · rw [if_neg c1, if_neg fun z => c1 (this.mp z)]
theorem part_start {m : Int} {R : M} {p : List Int} {o : Int} {a c : Int} : part m R p o [] a c = if a ∈ p then W m R a c else R a c := by
  unfold part; simp
theorem part_turn {m : Int} {R : M} {p ids : List Int} {o o' : Int} {a c : Int} (hc : c ∈ ids) : part m R p o ids a c = part m R (p ++ [o]) o' [] a c := by
  unfold part
  simp only [hc, List.mem_append, List.mem_singleton, List.not_mem_nil, and_false, or_false, and_true]
theorem part_full {m : Int} {R : M} {ids : List Int} {o : Int} {a c : Int} (ha : a ∈ ids) : part m R ids o [] a c = W m R a c := by
  unfold part; simp [ha]
structure Cl (es : E) (ids : List Int) (p : List Int) (R : M) : Prop where
  path : ∀ a c, R a c = true → Path es a c
  base : ∀ a c, (a, c) ∈ es → R a c = true
  trans : ∀ m ∈ p, ∀ a c, R a m = true → R m c = true → R a c = true
theorem path_trans {es : E} {a b c : Int} (p : Path es a b) (q : Path es b c) : Path es a c := by
  induction q with
  | one h => exact .snoc p h
  | snoc _ h ih => exact .snoc ih h
theorem cl_start (es : E) (ids : List Int) : Cl es ids [] (fun a c => decide ((a, c) ∈ es)) := ⟨fun a c h => .one (by simpa using h), fun a c h => by simpa using h, fun m h => by simp at h⟩
theorem cl_step {es : E} {ids p : List Int} {R : M} {m : Int} (C : Cl es ids p R) : Cl es ids (p ++ [m]) (W m R) := by
  refine ⟨fun a c h => ?_, fun a c h => by simp [W, C.base a c h], fun k hk a c h1 h2 => ?_⟩
  · simp only [W, Bool.or_eq_true, Bool.and_eq_true] at h
    rcases h with h | ⟨h1, h2⟩
    · exact C.path a c h
    · exact path_trans (C.path _ _ h1) (C.path _ _ h2)
  · simp only [W, Bool.or_eq_true, Bool.and_eq_true] at h1 h2 ⊢
    rcases List.mem_append.mp hk with hk | hk
    · have t := C.trans k hk
      rcases h1 with h1 | ⟨h1, h1'⟩
      · rcases h2 with h2 | ⟨h2, h2'⟩
        · exact .inl (t _ _ h1 h2)
        · exact .inr ⟨t _ _ h1 h2, h2'⟩
      · rcases h2 with h2 | ⟨h2, h2'⟩
        · exact .inr ⟨h1, t _ _ h1' h2⟩
        · exact .inr ⟨h1, h2'⟩
    · simp at hk
      subst hk
      have h1 : R a k = true := h1.elim id fun h => h.1
      have h2 : R k c = true := h2.elim id fun h => h.2
      exact .inr ⟨h1, h2⟩
theorem cl_congr {es : E} {ids p : List Int} {R R' : M} (C : Cl es ids p R) (h : ∀ a c, R a c = R' a c) : Cl es ids p R' := by
  have : R = R' := by funext a c; exact h a c
  rw [← this]; exact C
theorem cl_end {es : E} {ids : List Int} {R : M} (C : Cl es ids ids R) (hin : ∀ e ∈ es, e.1 ∈ ids ∧ e.2 ∈ ids) (a c : Int) : R a c = true ↔ Path es a c := by
  refine ⟨C.path a c, fun p => ?_⟩
  induction p with
  | one h => exact C.base _ _ h
  | snoc _ h ih => exact C.trans _ (hin _ h).1 _ _ ih (C.base _ _ h)
/-! ## rings -/
open Classical in
noncomputable def ring (es : E) (a : Int) : Bool := decide (Path es a a)
theorem ring_iff {es : E} {a : Int} : ring es a = true ↔ Path es a a := by unfold ring; simp
theorem ring_of {es : E} {R : M} (h : ∀ a c, R a c = true ↔ Path es a c) (a : Int) : R a a = ring es a := by
  have := h a a
  cases h1 : R a a <;> cases h2 : ring es a <;> simp_all [ring]
noncomputable def rings (es : E) (ids : List Int) : List Int := ids.filter (ring es)
theorem pw_ext : ∀ {l m : List Int}, l.Pairwise (· < ·) → m.Pairwise (· < ·) → (∀ x, x ∈ l ↔ x ∈ m) → l = m
  | [], [], _, _, _ => rfl
  | [], b :: m, _, _, h => absurd ((h b).mpr List.mem_cons_self) (by simp)
  | a :: l, [], _, _, h => absurd ((h a).mp List.mem_cons_self) (by simp)
  | a :: l, b :: m, h1, h2, h => by
    obtain ⟨p1, p2⟩ := List.pairwise_cons.mp h1
    obtain ⟨q1, q2⟩ := List.pairwise_cons.mp h2
    have hab : a = b := by
      have ha := (h a).mp List.mem_cons_self
      have hb := (h b).mpr List.mem_cons_self
      rcases List.mem_cons.mp ha with e | ha
      · exact e
      · rcases List.mem_cons.mp hb with e | hb
        · exact e.symm
        · have := q1 a ha; have := p1 b hb; omega
    subst hab
    rw [pw_ext p2 q2 fun x => ?_]
    constructor
    · intro hx
      rcases List.mem_cons.mp ((h x).mp (List.mem_cons_of_mem _ hx)) with e | hm
      · have := p1 x hx; omega
      · exact hm
    · intro hx
      rcases List.mem_cons.mp ((h x).mpr (List.mem_cons_of_mem _ hx)) with e | hm
      · have := q1 x hx; omega
      · exact hm
def addK (ks : List Int) (a : Int) : List Int := if a ∈ ks then ks else ks ++ [a]
def uniq (l : List Int) : List Int := l.foldl addK []
theorem addK_nodup {ks : List Int} {a : Int} (h : ks.Nodup) : (addK ks a).Nodup := by
  unfold addK
  split
  · exact h
  · rename_i hn
    exact List.nodup_append.mpr ⟨h, by simp, fun x hx y hy => by
      simp at hy; subst hy
      exact fun z => hn (z ▸ hx)⟩
theorem addK_mem {ks : List Int} {a x : Int} : x ∈ addK ks a ↔ x ∈ ks ∨ x = a := by
  unfold addK
  split
  · rename_i h
    exact ⟨.inl, fun q => q.elim id fun e => e ▸ h⟩
  · simp
theorem fold_facts : ∀ (l ks : List Int), ks.Nodup → (l.foldl addK ks).Nodup ∧ ∀ x, x ∈ l.foldl addK ks ↔ x ∈ ks ∨ x ∈ l
  | [], ks, h => ⟨h, fun x => by simp⟩
  | a :: l, ks, h => by
    obtain ⟨h1, h2⟩ := fold_facts l (addK ks a) (addK_nodup h)
    refine ⟨h1, fun x => ?_⟩
    rw [List.foldl_cons, h2, addK_mem]
    simp only [List.mem_cons]
    constructor
    · rintro ((h | h) | h) <;> simp [h]
    · rintro (h | h | h) <;> simp [h]
theorem uniq_facts (l : List Int) : (uniq l).Nodup ∧ ∀ x, x ∈ uniq l ↔ x ∈ l := by
  obtain ⟨h1, h2⟩ := fold_facts l [] List.nodup_nil
  exact ⟨h1, fun x => by rw [show uniq l = l.foldl addK [] from rfl, h2]; simp⟩
/-- the sources in order, those that reach themselves -/
theorem rings_src {es : E} {ids ks : List Int} (hi : ids.Pairwise (· < ·)) (hks : ks.Pairwise (· < ·)) (hm : ∀ x, x ∈ ks ↔ x ∈ es.map (·.1)) (hin : ∀ e ∈ es, e.1 ∈ ids ∧ e.2 ∈ ids) : ks.filter (ring es) = rings es ids := by
  refine pw_ext (hks.filter _) (hi.filter _) fun x => ?_
  unfold rings
  rw [List.mem_filter, List.mem_filter]
  constructor
  · rintro ⟨h1, h2⟩
    obtain ⟨e, he, rfl⟩ := List.mem_map.mp ((hm x).mp h1)
    exact ⟨(hin e he).1, h2⟩
  · rintro ⟨_, h2⟩
    obtain ⟨c, h⟩ := (ring_iff.mp h2).first
    exact ⟨(hm x).mpr (List.mem_map.mpr ⟨_, h, rfl⟩), h2⟩
/-! ## who is due -/
def dueStep (pri : Int → Int) (d : Option Int) (one : Int) : Option Int := match d with
  | none => some one
  | some x => if pri one < pri x then some one else some x
def due (pri : Int → Int) (l : List Int) : Option Int := l.foldl (dueStep pri) none
def mnP (pri : Int → Int) (a y : Int) : Int := if pri y < pri a ∨ (pri y = pri a ∧ y < a) then y else a
theorem due_min (pri : Int → Int) : ∀ (l : List Int) (x : Int), (x :: l).Pairwise (· < ·) → l.foldl (dueStep pri) (some x) = some (l.foldl (mnP pri) x)
  | [], x, _ => rfl
  | y :: l, x, h => by
    obtain ⟨h1, h2⟩ := List.pairwise_cons.mp h
    obtain ⟨h3, h4⟩ := List.pairwise_cons.mp h2
    have hxy := h1 y List.mem_cons_self
    rw [List.foldl_cons, List.foldl_cons]
    by_cases c : pri y < pri x
    · have e1 : dueStep pri (some x) y = some y := by simp [dueStep, c]
      have e2 : mnP pri x y = y := by simp [mnP, c]
      rw [e1, e2]
      exact due_min pri l y h2
    · have e1 : dueStep pri (some x) y = some x := by simp [dueStep, c]
      have e2 : mnP pri x y = x := by
        unfold mnP
        rw [if_neg]
        omega
      rw [e1, e2]
      exact due_min pri l x (List.pairwise_cons.mpr ⟨fun z hz => h1 z (List.mem_cons_of_mem _ hz), h4⟩)
theorem due_mem (pri : Int → Int) : ∀ (l : List Int) (d : Option Int) (x : Int), l.foldl (dueStep pri) d = some x → d = some x ∨ x ∈ l
  | [], d, x, h => .inl h
  | y :: l, d, x, h => by
    rcases due_mem pri l _ x h with h | h
    · unfold dueStep at h
      split at h
      · cases h; exact .inr List.mem_cons_self
      · split at h
        · cases h; exact .inr List.mem_cons_self
        · exact .inl h
    · exact .inr (List.mem_cons_of_mem _ h)
theorem due_none (pri : Int → Int) (l : List Int) (h : due pri l = none) : l = [] := by
  cases l with
  | nil => rfl
  | cons x l =>
    exfalso
    have : ∀ (l : List Int) (x : Int), l.foldl (dueStep pri) (some x) ≠ none := by
      intro l
      induction l with
      | nil => intro x h; cases h
      | cons y l ih =>
        intro x h
        rw [List.foldl_cons] at h
        unfold dueStep at h
        simp only at h
        split at h <;> exact ih _ h
    exact this l x h
def cut (es : E) (d : Int) : E := es.filter fun e => !(decide (e.1 = d) || decide (e.2 = d))
theorem filter_lt {p q : Int → Bool} : ∀ {l : List Int}, (∀ a, q a = true → p a = true) → ∀ x ∈ l, p x = true → q x = false → (l.filter q).length < (l.filter p).length
  | a :: l, h, x, hx, h1, h2 => by
    have le : ∀ l : List Int, (l.filter q).length ≤ (l.filter p).length := by
      intro l
      induction l with
      | nil => exact Nat.le_refl _
      | cons b l ih =>
        by_cases c : q b = true
        · rw [List.filter_cons_of_pos c, List.filter_cons_of_pos (h b c)]; simp; exact ih
        · rw [List.filter_cons_of_neg c]
          by_cases c2 : p b = true
          · rw [List.filter_cons_of_pos c2]; simp; omega
          · rw [List.filter_cons_of_neg c2]; exact ih
    rcases List.mem_cons.mp hx with rfl | hx
    · rw [List.filter_cons_of_pos h1, List.filter_cons_of_neg (by rw [h2]; simp)]
      have := le l
      simp; omega
    · have ih := filter_lt (l := l) h x hx h1 h2
      by_cases c : q a = true
      · rw [List.filter_cons_of_pos c, List.filter_cons_of_pos (h a c)]; simp; exact ih
      · rw [List.filter_cons_of_neg c]
        by_cases c2 : p a = true
        · rw [List.filter_cons_of_pos c2]; simp; omega
        · rw [List.filter_cons_of_neg c2]; exact ih
theorem cut_less {es : E} {ids : List Int} {d : Int} (h : d ∈ rings es ids) : (rings (cut es d) ids).length < (rings es ids).length := by
  obtain ⟨h1, h2⟩ := List.mem_filter.mp h
  have sub : ∀ e ∈ cut es d, e ∈ es := fun e he => (List.mem_filter.mp he).1
  refine filter_lt (fun a ha => ring_iff.mpr ((ring_iff.mp ha).mono sub)) d h1 h2 ?_
  cases c : ring (cut es d) d with
  | false => rfl
  | true =>
    obtain ⟨b, hb⟩ := (ring_iff.mp c).first
    have := (List.mem_filter.mp hb).2
    simp at this
end A32

set_option Elab.async false
set_option linter.all false
set_option maxRecDepth 100000
set_option maxHeartbeats 1000000
namespace K32
open PySem PySem.Spec PyProof.Rows L2 Z
abbrev T : Prog := conf.prog
theorem at_draw : T.defs.lookup (("_law_draw", none) : Str × Option Str) = some (⟨2, 5, bDraw⟩ : Fd) := rfl
theorem at_state : T.defs.lookup (("_law_state", none) : Str × Option Str) = some (⟨1, 3, bState2⟩ : Fd) := rfl
theorem at_pick : T.defs.lookup (("_law_pick", none) : Str × Option Str) = some (⟨2, 2, b__law_pick⟩ : Fd) := rfl
theorem at_reached : T.defs.lookup (("reached", none) : Str × Option Str) = some (⟨2, 7, b_reached⟩ : Fd) := rfl
theorem at_rings : T.defs.lookup (("in_rings", none) : Str × Option Str) = some (⟨1, 4, b_in_rings⟩ : Fd) := rfl
theorem at_victim : T.defs.lookup (("victim", none) : Str × Option Str) = some (⟨2, 4, b_victim⟩ : Fd) := rfl
theorem at_clos : T.defs.lookup (("_law_closure", none) : Str × Option Str) = some (⟨2, 6, b__law_closure⟩ : Fd) := rfl
theorem at_law : T.defs.lookup (("law", none) : Str × Option Str) = some (⟨1, 14, b_law⟩ : Fd) := rfl
def eD (e : Int × Int) : D := .tup [.int e.1, .int e.2]
def fK (f : List Int) : List (Key × D) := f.map fun x => (.inl x, .bl true)
theorem look_fK : ∀ (f : List Int) (h : Int), (look (fK f) (.inl h : Key)).isSome = decide (h ∈ f)
  | [], h => by simp [fK, look]
  | x :: f, h => by
    have ih := look_fK f h
    unfold fK look at ih ⊢
    rw [List.map_cons, List.find?_cons]
    by_cases c : x = h
    · subst c; simp
    · have : ¬ (Sum.inl x : Key) = .inl h := fun z => c (Sum.inl.inj z)
      simp only [this, decide_false, List.mem_cons]
      rw [ih]
      simp [Ne.symm c]
theorem put_fK {f : List Int} {h : Int} (c : h ∉ f) : dput (fK f) (.inl h : Key) (.bl true) = fK (f ++ [h]) := by
  unfold dput
  rw [look_fK, if_neg (by simp [c])]
  simp [fK]
theorem put_fK2 {f : List Int} {h : Int} (c : h ∈ f) : dput (fK f) (.inl h : Key) (.bl true) = fK f := by
  unfold dput
  rw [look_fK, if_pos (by simp [c])]
  unfold fK
  rw [List.map_map]
  refine List.map_congr_left fun x _ => ?_
  by_cases e : x = h
  · subst e; simp
  · have : ¬ (Sum.inl x : Key) = .inl h := fun z => e (Sum.inl.inj z)
    simp [this]
theorem put_addK (f : List Int) (h : Int) : dput (fK f) (.inl h : Key) (.bl true) = fK (A32.addK f h) := by
  unfold A32.addK
  by_cases c : h ∈ f
  · rw [if_pos c, put_fK2 c]
  · rw [if_neg c, put_fK c]
theorem notin_fK (f : List Int) (h : Int) : cmpD .NotIn (.int h) (.dK (fK f)) = some (decide (h ∉ f)) := by
  show (some (look (fK f) (.inl h : Key))).map (!·.isSome) = _
  rw [Option.map_some, look_fK]; simp
theorem fK_len (f : List Int) : (fK f).length = f.length := by simp [fK]
theorem intKs_fK : ∀ f : List Int, intKs (fK f) = some f
  | [] => rfl
  | x :: f => by
    show (intKs (fK f)).map (x :: ·) = _
    rw [intKs_fK f]; rfl
theorem sort_fK {f : List Int} (h : f.length < 64) : bltD .sorted [.dK (fK f)] = some (.lst ((sortI f).map .int)) := by
  show sortKD (fK f) = _
  unfold sortKD
  rw [intKs_fK]
  simp only
  rw [if_pos h]
theorem pop_last (w : List Int) (x : Int) : popD (.lst ((w ++ [x]).map .int)) [] = some (.int x, .lst (w.map .int)) := by
  simp [popD]
def b_reached_l0 : Sms := (.cons (.pop (some (.nm 4)) (.var 3) .nil) (.cons (.for_ (.nms [5, 6]) (.seq (.var 0)) (.cons (.ife (.and (.cmp .Eq (.var 5) (.var 4)) (.cmp .NotIn (.var 6) (.var 2))) (.cons (.seti (.var 2) (.var 6) (.cst (.bl true))) (.cons (.app (.var 3) (.var 6)) .nil)) .nil) .nil)) .nil))
def b_reached_l1 : Sms := (.cons (.ife (.and (.cmp .Eq (.var 5) (.var 4)) (.cmp .NotIn (.var 6) (.var 2))) (.cons (.seti (.var 2) (.var 6) (.cst (.bl true))) (.cons (.app (.var 3) (.var 6)) .nil)) .nil) .nil)
def rho (es : List (Int × Int)) (start : Int) (f w : List Int) (x4 x5 x6 : Z.Slot) : Env' := [.fz (.lst (es.map eD)), .fz (.int start), .own (.dK (fK f)), .own (.lst (w.map .int)), x4, x5, x6]
theorem l1_ok {n : Nat} {S : Store} {es : List (Int × Int)} {start one : Int} {q : List Int × List Int} {e : Int × Int} (h1 : q.1.length ≤ 100) (h2 : q.2.length ≤ 100) : evSs (Z.run T n) b_reached_l1 (rho es start q.1 q.2 (.fz (.int one)) (.fz (.int e.1)) (.fz (.int e.2))) S = some (.nxt (rho es start (A32.stepE one q e).1 (A32.stepE one q e).2 (.fz (.int one)) (.fz (.int e.1)) (.fz (.int e.2))) S) := by
  have big : (1000 : Nat) ≤ sizeLine := by decide
  have ni := notin_fK q.1 e.2
  have k1 : (fK q.1).length < sizeLine := by rw [fK_len]; omega
  have k2 : q.2.length < sizeLine := by omega
  unfold rho
  by_cases c1 : e.1 = one
  · by_cases c2 : e.2 ∈ q.1
    · have : A32.stepE one q e = q := by unfold A32.stepE; rw [if_neg (by simp [c2])]
      rw [this]
      simp -implicitDefEqProofs [b_reached_l1, hOf, eq_ii, c1, ni, c2]
    · have : A32.stepE one q e = (q.1 ++ [e.2], q.2 ++ [e.2]) := by unfold A32.stepE; rw [if_pos ⟨c1, c2⟩]
      rw [this]
      have p := put_fK c2
      have st : setItem' (.dK (fK q.1)) (.int e.2) (.bl true) = some (.dK (fK (q.1 ++ [e.2]))) := by
        simp only [setItem', dset, keyK]
        rw [if_pos k1, p]
      simp -implicitDefEqProofs [b_reached_l1, hOf, eq_ii, c1, ni, c2, Cst.d, st, putC, isLst, k2]
  · have : A32.stepE one q e = q := by unfold A32.stepE; rw [if_neg (by simp [c1])]
    rw [this]
    simp -implicitDefEqProofs [b_reached_l1, hOf, eq_ii, c1]
theorem for_ok {n : Nat} {S : Store} {es : List (Int × Int)} {start one : Int} {f w : List Int} {x5 x6 : Z.Slot} (hE : es.length ≤ 14) (hw : w.length ≤ 20) (M : A32.Mid es start one [] (f, w)) :
    ∃ f' w' y5 y6, evS (Z.run T n) (.for_ (.nms [5, 6]) (.seq (.var 0)) b_reached_l1) (rho es start f w (.fz (.int one)) x5 x6) S = some (.nxt (rho es start f' w' (.fz (.int one)) y5 y6) S) ∧ A32.Mid es start one es (f', w') ∧ w'.length + f.length = w.length + f'.length := by
  have hi : evI (Z.run T n) (.seq (.var 0)) (rho es start f w (.fz (.int one)) x5 x6) S = some (.val (.lst (es.map eD)), es.map eD, S) := by
    unfold rho
    simp -implicitDefEqProofs [hOf]
  obtain ⟨ρ', S', e1, rfl, f', w', y5, y6, rfl, hM, hl⟩ := for_map (G := Z.run T n) (t := .nms [5, 6]) (b := b_reached_l1) eD es
    (fun p ρ S' => S' = S ∧ ∃ f' w' y5 y6, ρ = rho es start f' w' (.fz (.int one)) y5 y6 ∧ A32.Mid es start one p (f', w') ∧ w'.length + f.length = w.length + f'.length) (fun n z => by cases z) hi ⟨rfl, f, w, x5, x6, rfl, M, rfl⟩ (fun p x q hq ρ S' hP => by
      obtain ⟨rfl, f1, w1, y5, y6, rfl, M1, hl⟩ := hP
      have b1 := A32.paths_len M1.nd M1.path
      have hx : x ∈ es := by rw [hq]; simp
      have e := l1_ok (n := n) (S := S') (es := es) (start := start) (one := one) (q := (f1, w1)) (e := x) (by show f1.length ≤ 100; simp at b1; omega) (by show w1.length ≤ 100; simp at b1; omega)
      refine ⟨_, _, S', rfl, e, rfl, _, _, _, _, rfl, A32.mid_step M1 hx, ?_⟩
      have := A32.step_len (one := one) (q := (f1, w1)) (e := x)
      simp only at this
      omega)
  exact ⟨f', w', y5, y6, e1, hM, hl⟩
theorem while_ok {n : Nat} {S : Store} {es : List (Int × Int)} {start : Int} (hE : es.length ≤ 14) : ∀ (m : Nat) (f w : List Int) (x4 x5 x6 : Z.Slot), A32.Inv es start f w → w.length + es.length < m + f.length → w.length ≤ 1 + f.length →
    ∃ f' y4 y5 y6, whGo (fun ρ' S' => bnd (evE (Z.run T n) (.cmp .Gt (.blt .len (.cons (.var 3) .nil)) (.cst (.int 0))) ρ' S') (k := ⟨fun x => mp (blOf x.1) (k := ⟨fun k => (k, x.2)⟩)⟩)) (fun ρ' S' => evSs (Z.run T n) b_reached_l0 ρ' S') m (rho es start f w x4 x5 x6) S = some (.nxt (rho es start f' [] y4 y5 y6) S) ∧ A32.Inv es start f' []
  | 0, f, w, x4, x5, x6, I, hm, hw => by
    have b1 := A32.paths_len I.nd I.path
    omega
  | m + 1, f, w, x4, x5, x6, I, hm, hw => by
    have b1 := A32.paths_len I.nd I.path
    unfold whGo
    by_cases c : w = []
    · subst c
      refine ⟨f, x4, x5, x6, ?_, I⟩
      have : evE (Z.run T n) (.cmp .Gt (.blt .len (.cons (.var 3) .nil)) (.cst (.int 0))) (rho es start f [] x4 x5 x6) S = some (.bl false, S) := by
        unfold rho
        simp -implicitDefEqProofs [hOf, Cst.d, gt_ii]
      simp only [this, bnd_some, blOf_bl, mp_some, Option.bind_some, Bool.false_eq_true, if_false]
    · obtain ⟨w1, one, rfl⟩ : ∃ w1 one, w = w1 ++ [one] := ⟨w.dropLast, w.getLast c, (List.dropLast_concat_getLast c).symm⟩
      have hc : evE (Z.run T n) (.cmp .Gt (.blt .len (.cons (.var 3) .nil)) (.cst (.int 0))) (rho es start f (w1 ++ [one]) x4 x5 x6) S = some (.bl true, S) := by
        have p0 : (0 : Int) < (w1.length : Int) + 1 := by omega
        unfold rho
        simp -implicitDefEqProofs [hOf, Cst.d, gt_ii, p0]
      obtain ⟨f', w', y5, y6, e2, hM, hl⟩ := for_ok (n := n) (S := S) (x5 := x5) (x6 := x6) hE (by simp at hw; omega) (A32.mid_start I)
      have e1 : evS (Z.run T n) (.pop (some (.nm 4)) (.var 3) .nil) (rho es start f (w1 ++ [one]) x4 x5 x6) S = some (.nxt (rho es start f w1 (.fz (.int one)) x5 x6) S) := by
        have pl := pop_last w1 one
        unfold rho
        simp -implicitDefEqProofs [hOf, -List.map_append, pl, putC, bindT, isLst, isDct]
      have e3 : evSs (Z.run T n) b_reached_l0 (rho es start f (w1 ++ [one]) x4 x5 x6) S = some (.nxt (rho es start f' w' (.fz (.int one)) y5 y6) S) := by
        have : b_reached_l0 = .cons (.pop (some (.nm 4)) (.var 3) .nil) (.cons (.for_ (.nms [5, 6]) (.seq (.var 0)) b_reached_l1) .nil) := rfl
        rw [this, seq1 e1, seq1 e2]
        rw [evSs]
      obtain ⟨f2, z4, z5, z6, e4, I2⟩ := while_ok hE m f' w' (.fz (.int one)) y5 y6 (A32.mid_end hM) (by simp at hm hl; omega) (by simp at hw hl; omega)
      refine ⟨f2, z4, z5, z6, ?_, I2⟩
      simp only [hc, bnd_some, blOf_bl, mp_some, Option.bind_some, if_true, e3]
      exact e4
theorem reached_ok {n : Nat} {S : Store} {es : List (Int × Int)} {start : Int} (hE : es.length ≤ 14) : ∃ f : List Int, runF T (n + 1) ("reached", none) [.lst (es.map eD), .int start] S = some (.lst ((sortI f).map .int), S) ∧ f.Nodup ∧ f.length ≤ 14 ∧ ∀ x, x ∈ f ↔ A32.Path es start x := by
  obtain ⟨f, y4, y5, y6, e, I⟩ := while_ok (n := n) (S := S) (start := start) hE whMost [] [start] .un .un .un (A32.inv_start es start) (by { have : (1000 : Nat) < whMost := (by decide); simp; omega }) (by simp)
  have b1 := A32.paths_len I.nd I.path
  refine ⟨f, ?_, I.nd, by omega, A32.inv_end I⟩
  rw [run_def at_reached _ S rfl]
  show (evSs (Z.run T n) b_reached [.fz (.lst (es.map eD)), .fz (.int start), .un, .un, .un, .un, .un] S).bind outR = _
  have q0 : evS (Z.run T n) (.own 2 (.dnew false)) [.fz (.lst (es.map eD)), .fz (.int start), .un, .un, .un, .un, .un] S = some (.nxt [.fz (.lst (es.map eD)), .fz (.int start), .own (.dK []), .un, .un, .un, .un] S) := by
    simp -implicitDefEqProofs [isFresh]
  have q1 : evS (Z.run T n) (.own 3 (.list (.cons (.var 1) .nil))) [.fz (.lst (es.map eD)), .fz (.int start), .own (.dK []), .un, .un, .un, .un] S = some (.nxt (rho es start [] [start] .un .un .un) S) := by
    simp -implicitDefEqProofs [isFresh, len1, rho, fK]
  have q2 : evS (Z.run T n) (.while_ (.cmp .Gt (.blt .len (.cons (.var 3) .nil)) (.cst (.int 0))) b_reached_l0) (rho es start [] [start] .un .un .un) S = some (.nxt (rho es start f [] y4 y5 y6) S) := by
    rw [x_evS_while_]; exact e
  have q3 : evS (Z.run T n) (.ret (.blt .sorted (.cons (.var 2) .nil))) (rho es start f [] y4 y5 y6) S = some (.ret (.lst ((sortI f).map .int)) S) := by
    have sf := sort_fK (f := f) (by omega)
    unfold rho
    simp -implicitDefEqProofs [hOf, sf]
  have : b_reached = .cons (.own 2 (.dnew false)) (.cons (.own 3 (.list (.cons (.var 1) .nil))) (.cons (.while_ (.cmp .Gt (.blt .len (.cons (.var 3) .nil)) (.cst (.int 0))) b_reached_l0) (.cons (.ret (.blt .sorted (.cons (.var 2) .nil))) .nil))) := rfl
  rw [this, seq1 q0, seq1 q1, seq1 q2]
  simp only [x_evSs_cons, q3, bnd_some]
  rfl
end K32

set_option Elab.async false
set_option linter.all false
set_option maxRecDepth 100000
set_option maxHeartbeats 1000000
namespace K32
open PySem PySem.Spec PyProof.Rows L2 Z
theorem mkd_fK : ∀ (l : List Int) (ks : List Int), mkd (l.map fun a => .tup [.int a, .bl true]) (fK ks) = some (fK (l.foldl A32.addK ks))
  | [], ks => rfl
  | a :: l, ks => by
    show mkd (l.map _) (dput (fK ks) (.inl a : Key) (.bl true)) = _
    rw [put_addK, mkd_fK l]; rfl
theorem in_rings_ok {n : Nat} {S : Store} {es : List (Int × Int)} {ids : List Int} (hE : es.length ≤ 14) (hi : ids.Pairwise (· < ·)) (hin : ∀ e ∈ es, e.1 ∈ ids ∧ e.2 ∈ ids) :
    runF T (n + 2) ("in_rings", none) [.lst (es.map eD)] S = some (.lst ((A32.rings es ids).map .int), S) := by
  rw [run_def at_rings _ S rfl]
  show (evSs (Z.run T (n + 1)) b_in_rings [.fz (.lst (es.map eD)), .un, .un, .un] S).bind outR = _
  obtain ⟨u1, u2⟩ := A32.uniq_facts (es.map (·.1))
  have ulen : (A32.uniq (es.map (·.1))).length ≤ 14 := by
    have := A32.nodup_len _ (es.map (·.1)) u1 fun x hx => (u2 x).mp hx
    simp at this; omega
  have e0 := dcomp_maph (G := Z.run T (n + 1)) (t := .nm 3) (it := .seq (.var 0)) (ek := .idx (.var 3) (.cst (.int 0))) (ev := .cst (.bl true)) (ρ := [.fz (.lst (es.map eD)), .un, .un, .un]) (S := S) (S1 := S) (w := .val (.lst (es.map eD))) eD es (fun e => .int e.1) (fun _ => .bl true) (es := fK (A32.uniq (es.map (·.1)))) rfl rfl
    (by simp -implicitDefEqProofs [hOf]) (fun x hx => ⟨_, rfl, by
      show evE _ _ [.fz (.lst (es.map eD)), .un, .un, .fz (.tup [.int x.1, .int x.2])] S = _
      simp -implicitDefEqProofs [hOf, Cst.d, Z.atI0], by simp -implicitDefEqProofs [Cst.d]⟩) (by omega) (by
      have := mkd_fK (es.map (·.1)) []
      rw [List.map_map] at this
      exact this)
  have sf := sort_fK (f := A32.uniq (es.map (·.1))) (by omega)
  have q0 : evS (Z.run T (n + 1)) (.asg (.nm 1) (.blt .sorted (.cons (.dcomp (.nm 3) (.seq (.var 0)) .nil (.idx (.var 3) (.cst (.int 0))) (.cst (.bl true))) .nil))) [.fz (.lst (es.map eD)), .un, .un, .un] S = some (.nxt [.fz (.lst (es.map eD)), .fz (.lst ((sortI (A32.uniq (es.map (·.1)))).map .int)), .un, .un] S) := by
    simp -implicitDefEqProofs [hOf, e0, sf, bindT]
  have e1 := comp_keeph (G := Z.run T (n + 1)) (i := 2) (it := .seq (.var 1)) (c := .cmp .In (.var 2) (.call "reached" (.cons (.var 0) (.cons (.var 2) .nil)))) (ρ := [.fz (.lst (es.map eD)), .fz (.lst ((sortI (A32.uniq (es.map (·.1)))).map .int)), .un, .un]) (S := S) (S1 := S) (w := .val (.lst ((sortI (A32.uniq (es.map (·.1)))).map .int))) D.int (sortI (A32.uniq (es.map (·.1)))) (A32.ring es) rfl rfl
    (by simp -implicitDefEqProofs [hOf]) (show 2 < 4 by decide) (fun x hx => by
      obtain ⟨f, r1, r2, r3, r4⟩ := reached_ok (n := n) (S := S) (start := x) hE
      have mi := in_ints (sortI f) x
      have e2 : decide (x ∈ sortI f) = A32.ring es x := by
        rw [Bool.eq_iff_iff, decide_eq_true_eq, sortI_mem, r4, A32.ring_iff]
      rw [e2] at mi
      simp -implicitDefEqProofs [hOf, r1, mi]) (by rw [sortI_len]; omega)
  have e3 := A32.rings_src hi (sortI_pw u1) (fun x => by rw [sortI_mem, u2]) hin
  rw [e3] at e1
  have : b_in_rings = .cons (.asg (.nm 1) (.blt .sorted (.cons (.dcomp (.nm 3) (.seq (.var 0)) .nil (.idx (.var 3) (.cst (.int 0))) (.cst (.bl true))) .nil))) (.cons (.ret (.comp (.nm 2) (.seq (.var 1)) (.cons (.cmp .In (.var 2) (.call "reached" (.cons (.var 0) (.cons (.var 2) .nil)))) .nil) (.var 2))) .nil) := rfl
  rw [this, seq1 q0]
  simp only [x_evSs_cons, x_evS_ret, e1, mp_some, bnd_some]
  rfl
/-! ## priorities -/
def pK (ps : List (Int × Int)) : List (Key × D) := ps.map fun e => (.inl e.1, .int e.2)
def pri (ps : List (Int × Int)) (x : Int) : Int := ((ps.find? fun e => decide (e.1 = x)).map (·.2)).getD 0
theorem look_pK : ∀ (ps : List (Int × Int)) (x : Int), look (pK ps) (.inl x : Key) = ((ps.find? fun e => decide (e.1 = x)).map (·.2)).map D.int
  | [], x => rfl
  | e :: ps, x => by
    have ih := look_pK ps x
    unfold pK look at ih ⊢
    rw [List.map_cons, List.find?_cons, List.find?_cons]
    by_cases c : e.1 = x
    · simp [c]
    · have : ¬ (Sum.inl e.1 : Key) = .inl x := fun z => c (Sum.inl.inj z)
      simp only [this, c, decide_false]
      exact ih
theorem get_pri (ps : List (Int × Int)) (x : Int) : (dget (.dK (pK ps)) (.int x)).map (fun r => r.getD (.int 0)) = some (.int (pri ps x)) := by
  show some ((look (pK ps) (.inl x : Key)).getD (.int 0)) = _
  rw [look_pK]
  unfold pri
  cases (ps.find? fun e => decide (e.1 = x)) <;> rfl
theorem getd_ok {G : Fns} {ρ : Env'} {S : Store} {ps : List (Int × Int)} {i j : Nat} {x : Int} (h1 : ρ[i]? = some (.fz (.dK (pK ps)))) (h2 : ρ[j]? = some (.fz (.int x))) : evE G (.getd (.var i) (.var j) (.cst (.int 0))) ρ S = some (.int (pri ps x), S) := by
  have := get_pri ps x
  obtain ⟨r, e1, e2⟩ := Option.map_eq_some_iff.mp this
  simp -implicitDefEqProofs [hOf, h1, h2, isDct, Cst.d, e1, e2]
def tD (ps : List (Int × Int)) (x : Int) : D := .tup [.int (pri ps x), .int x]
theorem min_tD (ps : List (Int × Int)) (x : Int) (l : List Int) : bltD .min [.lst ((x :: l).map (tD ps))] = some (tD ps (l.foldl (A32.mnP (pri ps)) x)) := by
  have ok : okAll ((x :: l).map (tD ps)) = true := okAll_map (x :: l) (tD ps) (fun y _ => ⟨by simp [tD, D.plain, plains], by simp [tD, D.dep, D.py, pys, PyData.depth, PyData.depthAll], rfl⟩) fun y _ z _ => like_st _ _ _ _
  have e : ∀ (l : List Int) (x : Int), minD (tD ps x) (l.map (tD ps)) = tD ps (l.foldl (A32.mnP (pri ps)) x) := by
    intro l
    induction l with
    | nil => intro x; rfl
    | cons y l ih =>
      intro x
      show minD (if ltD (tD ps y) (tD ps x) then tD ps y else tD ps x) (l.map (tD ps)) = _
      have : (if ltD (tD ps y) (tD ps x) then tD ps y else tD ps x) = tD ps (A32.mnP (pri ps) x y) := by
        unfold tD A32.mnP
        rw [stlt]
        by_cases c : pri ps y < pri ps x ∨ (pri ps y = pri ps x ∧ y < x)
        · rw [if_pos c, decide_eq_true c, if_pos rfl]
        · rw [if_neg c, decide_eq_false c, if_neg (by simp)]
      rw [this, ih]; rfl
  rw [List.map_cons] at ok ⊢
  show (if okAll _ = true then some (minD _ _) else none) = _
  rw [if_pos ok, e]
def dueD (d : Option Int) : D := match d with
  | none => .non
  | some x => .int x
theorem victim_ok {n : Nat} {S : Store} {es ps : List (Int × Int)} {ids : List Int} (hE : es.length ≤ 14) (hi : ids.Pairwise (· < ·)) (hl : ids.length ≤ 7) (hin : ∀ e ∈ es, e.1 ∈ ids ∧ e.2 ∈ ids) :
    runF T (n + 3) ("victim", none) [.lst (es.map eD), .dK (pK ps)] S = some (dueD (A32.due (pri ps) (A32.rings es ids)), S) := by
  rw [run_def at_victim _ S rfl]
  show (evSs (Z.run T (n + 2)) b_victim [.fz (.lst (es.map eD)), .fz (.dK (pK ps)), .un, .un] S).bind outR = _
  have r := in_rings_ok (n := n) (S := S) hE hi hin
  have rl : (A32.rings es ids).length ≤ 7 := Nat.le_trans (List.length_filter_le _ _) hl
  have rp : (A32.rings es ids).Pairwise (· < ·) := hi.filter _
  generalize A32.rings es ids = R at *
  have e0 := comp_maph (G := Z.run T (n + 2)) (t := .nm 3) (it := .seq (.call "in_rings" (.cons (.var 0) .nil))) (e := .tup (.cons (.getd (.var 1) (.var 3) (.cst (.int 0))) (.cons (.var 3) .nil))) (ρ := [.fz (.lst (es.map eD)), .fz (.dK (pK ps)), .un, .un]) (S := S) (S1 := S) (w := .val (.lst (R.map .int))) D.int R (tD ps) rfl rfl
    (by simp -implicitDefEqProofs [hOf, r]) (fun x hx => ⟨_, rfl, by
      have g := getd_ok (G := Z.run T (n + 2)) (ρ := [.fz (.lst (es.map eD)), .fz (.dK (pK ps)), .un, .fz (.int x)]) (S := S) (ps := ps) (i := 1) (j := 3) (x := x) rfl rfl
      show evE _ _ [.fz (.lst (es.map eD)), .fz (.dK (pK ps)), .un, .fz (.int x)] S = _
      simp -implicitDefEqProofs [-x_evE_getd, g, len2, tD]⟩) (by omega)
  have q0 : evS (Z.run T (n + 2)) (.asg (.nm 2) (.comp (.nm 3) (.seq (.call "in_rings" (.cons (.var 0) .nil))) .nil (.tup (.cons (.getd (.var 1) (.var 3) (.cst (.int 0))) (.cons (.var 3) .nil))))) [.fz (.lst (es.map eD)), .fz (.dK (pK ps)), .un, .un] S = some (.nxt [.fz (.lst (es.map eD)), .fz (.dK (pK ps)), .fz (.lst (R.map (tD ps))), .un] S) := by
    simp -implicitDefEqProofs [e0, bindT]
  have q1 : evS (Z.run T (n + 2)) (.ret (.ife (.cmp .Gt (.blt .len (.cons (.var 2) .nil)) (.cst (.int 0))) (.idx (.blt .min (.cons (.var 2) .nil)) (.cst (.int 1))) (.cst .non))) [.fz (.lst (es.map eD)), .fz (.dK (pK ps)), .fz (.lst (R.map (tD ps))), .un] S = some (.ret (dueD (A32.due (pri ps) R)) S) := by
    cases R with
    | nil =>
      simp -implicitDefEqProofs [hOf, Cst.d, gt_ii]
      rfl
    | cons x l =>
      have m := min_tD ps x l
      have p0 : (0 : Int) < (l.length : Int) + 1 := by omega
      have ed : A32.due (pri ps) (x :: l) = some (l.foldl (A32.mnP (pri ps)) x) := A32.due_min (pri ps) l x rp
      rw [ed]
      rw [List.map_cons] at m
      simp -implicitDefEqProofs [hOf, Cst.d, gt_ii, p0, m]
      simp -implicitDefEqProofs [tD, Z.atI1, dueD]
  have : b_victim = .cons (.asg (.nm 2) (.comp (.nm 3) (.seq (.call "in_rings" (.cons (.var 0) .nil))) .nil (.tup (.cons (.getd (.var 1) (.var 3) (.cst (.int 0))) (.cons (.var 3) .nil))))) (.cons (.ret (.ife (.cmp .Gt (.blt .len (.cons (.var 2) .nil)) (.cst (.int 0))) (.idx (.blt .min (.cons (.var 2) .nil)) (.cst (.int 1))) (.cst .non))) .nil) := rfl
  rw [this, seq1 q0]
  simp only [x_evSs_cons, q1, bnd_some]
  rfl
end K32

set_option Elab.async false
set_option linter.all false
set_option maxRecDepth 100000
set_option maxHeartbeats 1000000
namespace K32
open PySem PySem.Spec PyProof.Rows L2 Z
def b__law_closure_l0 : Sms := (.cons (.for_ (.nm 5) (.seq (.var 1)) (.cons (.seti (.var 2) (.tup (.cons (.var 3) (.cons (.var 5) .nil))) (.cmp .In (.tup (.cons (.var 3) (.cons (.var 5) .nil))) (.var 0))) .nil)) .nil)
def b__law_closure_l1 : Sms := (.cons (.seti (.var 2) (.tup (.cons (.var 3) (.cons (.var 5) .nil))) (.cmp .In (.tup (.cons (.var 3) (.cons (.var 5) .nil))) (.var 0))) .nil)
def b__law_closure_l2 : Sms := (.cons (.for_ (.nm 3) (.seq (.var 1)) (.cons (.for_ (.nm 5) (.seq (.var 1)) (.cons (.seti (.var 2) (.tup (.cons (.var 3) (.cons (.var 5) .nil))) (.or (.idx (.var 2) (.tup (.cons (.var 3) (.cons (.var 5) .nil)))) (.and (.idx (.var 2) (.tup (.cons (.var 3) (.cons (.var 4) .nil)))) (.idx (.var 2) (.tup (.cons (.var 4) (.cons (.var 5) .nil))))))) .nil)) .nil)) .nil)
def b__law_closure_l3 : Sms := (.cons (.for_ (.nm 5) (.seq (.var 1)) (.cons (.seti (.var 2) (.tup (.cons (.var 3) (.cons (.var 5) .nil))) (.or (.idx (.var 2) (.tup (.cons (.var 3) (.cons (.var 5) .nil)))) (.and (.idx (.var 2) (.tup (.cons (.var 3) (.cons (.var 4) .nil)))) (.idx (.var 2) (.tup (.cons (.var 4) (.cons (.var 5) .nil))))))) .nil)) .nil)
def b__law_closure_l4 : Sms := (.cons (.seti (.var 2) (.tup (.cons (.var 3) (.cons (.var 5) .nil))) (.or (.idx (.var 2) (.tup (.cons (.var 3) (.cons (.var 5) .nil)))) (.and (.idx (.var 2) (.tup (.cons (.var 3) (.cons (.var 4) .nil)))) (.idx (.var 2) (.tup (.cons (.var 4) (.cons (.var 5) .nil))))))) .nil)
theorem kt {a b : Int} (ha : a ≠ 0) : keyT (.tup [.int a, .int b]) = some [.inl a, .inl b] := by
  simp [keyT, keyKs, keyK, badKs, ha, Ne.symm ha]
def kk (q : Int × Int) : List Key := [.inl q.1, .inl q.2]
theorem kk_inj {q r : Int × Int} (h : kk q = kk r) : q = r := by
  unfold kk at h
  obtain ⟨a, b⟩ := q
  obtain ⟨c, d⟩ := r
  simp at h
  simp [h]
def tab (R : A32.M) (l : List (Int × Int)) : List (List Key × D) := l.map fun q => (kk q, .bl (R q.1 q.2))
theorem tab_congr {R R' : A32.M} {l : List (Int × Int)} (h : ∀ q ∈ l, R q.1 q.2 = R' q.1 q.2) : tab R l = tab R' l := by
  unfold tab
  exact List.map_congr_left fun q hq => by rw [h q hq]
theorem look_tab (R : A32.M) : ∀ (l : List (Int × Int)) (q : Int × Int), look (tab R l) (kk q) = if q ∈ l then some (.bl (R q.1 q.2)) else none
  | [], q => by simp [tab, look]
  | r :: l, q => by
    have ih := look_tab R l q
    unfold tab look at ih ⊢
    rw [List.map_cons, List.find?_cons]
    by_cases c : r = q
    · subst c; simp
    · have : ¬ kk r = kk q := fun z => c (kk_inj z)
      simp only [this, decide_false, List.mem_cons, Ne.symm c, false_or]
      exact ih
theorem put_tab {R : A32.M} {l : List (Int × Int)} {q : Int × Int} {b : Bool} (h : q ∈ l) : dput (tab R l) (kk q) (.bl b) = tab (A32.setR R q.1 q.2 b) l := by
  unfold dput
  rw [look_tab, if_pos (by simp [h])]
  unfold tab
  rw [List.map_map]
  refine List.map_congr_left fun r _ => ?_
  unfold A32.setR
  by_cases e : r = q
  · subst e; simp
  · have : ¬ kk r = kk q := fun z => e (kk_inj z)
    have e2 : ¬ (r.1 = q.1 ∧ r.2 = q.2) := fun z => e (Prod.ext z.1 z.2)
    simp [this, e2]
theorem put_new {R : A32.M} {l : List (Int × Int)} {q : Int × Int} (h : q ∉ l) : dput (tab R l) (kk q) (.bl (R q.1 q.2)) = tab R (l ++ [q]) := by
  unfold dput
  rw [look_tab, if_neg (by simp [h])]
  simp [tab]
theorem tab_len (R : A32.M) (l : List (Int × Int)) : (tab R l).length = l.length := by simp [tab]
theorem set_new {R : A32.M} {l : List (Int × Int)} {a c : Int} (ha : a ≠ 0) (h : (a, c) ∉ l) (hl : l.length ≤ 100) : setItem' (.dT (tab R l)) (.tup [.int a, .int c]) (.bl (R a c)) = some (.dT (tab R (l ++ [(a, c)]))) := by
  have big : (1000 : Nat) ≤ sizeLine := by decide
  simp only [setItem', dset, kt ha]
  rw [if_pos (by rw [tab_len]; omega)]
  exact congrArg (fun z => some (D.dT z)) (put_new (R := R) h)
theorem set_old {R : A32.M} {l : List (Int × Int)} {a c : Int} {b : Bool} (ha : a ≠ 0) (h : (a, c) ∈ l) (hl : l.length ≤ 100) : setItem' (.dT (tab R l)) (.tup [.int a, .int c]) (.bl b) = some (.dT (tab (A32.setR R a c b) l)) := by
  have big : (1000 : Nat) ≤ sizeLine := by decide
  simp only [setItem', dset, kt ha]
  rw [if_pos (by rw [tab_len]; omega)]
  exact congrArg (fun z => some (D.dT z)) (put_tab (R := R) (q := (a, c)) h)
theorem idx_tab {R : A32.M} {l : List (Int × Int)} {a c : Int} (ha : a ≠ 0) (h : (a, c) ∈ l) : idxD (.dT (tab R l)) (.tup [.int a, .int c]) = some (.bl (R a c)) := by
  have := look_tab R l (a, c)
  rw [if_pos h] at this
  simp only [idxD, dget, kt ha, Option.map_some, Option.join_some]
  exact this
theorem in_eD (es : List (Int × Int)) (a c : Int) : cmpD .In (.tup [.int a, .int c]) (.lst (es.map eD)) = some (decide ((a, c) ∈ es)) := by
  have h : fits (es.map eD) = true := fits_map es eD fun _ _ => ⟨by simp [eD, D.plain, plains], by simp [eD, D.dep, D.py, pys, PyData.depth, PyData.depthAll]⟩
  have e : ((es.map eD).any fun b => eqD b (.tup [.int a, .int c])) = decide ((a, c) ∈ es) := by
    rw [List.any_map, Bool.eq_iff_iff]
    simp only [List.any_eq_true, Function.comp, eD, eqD_tup, eqA_cons, eqA_nil, eqD_int, Bool.and_true, Bool.and_eq_true, decide_eq_true_eq]
    constructor
    · rintro ⟨x, hx, h1, h2⟩
      have : x = (a, c) := Prod.ext h1 h2
      rw [← this]; exact hx
    · exact fun h => ⟨_, h, rfl, rfl⟩
  simp only [cmpD, fit_st, h, Bool.and_self, if_true, e]
def R0 (es : List (Int × Int)) : A32.M := fun a c => decide ((a, c) ∈ es)
def rc (es : List (Int × Int)) (ids : List Int) (R : A32.M) (l : List (Int × Int)) (x3 x4 x5 : Z.Slot) : Env' := [.fz (.lst (es.map eD)), .fz (.lst (ids.map .int)), .own (.dT (tab R l)), x3, x4, x5]
section
variable {n : Nat} {S : Store} {es : List (Int × Int)} {ids : List Int}
theorem walk_ids {R : A32.M} {l : List (Int × Int)} {x3 x4 x5 : Z.Slot} : evI (Z.run T n) (.seq (.var 1)) (rc es ids R l x3 x4 x5) S = some (.val (.lst (ids.map .int)), ids.map .int, S) := by
  unfold rc
  simp -implicitDefEqProofs [hOf]
theorem split_nd {p q : List Int} {x : Int} (h : ids = p ++ x :: q) (nd : ids.Nodup) : x ∉ p := by
  subst h
  intro hx
  have := (List.nodup_append.mp nd).2.2 x hx x List.mem_cons_self
  exact this rfl
theorem in1 {o : Int} {B : List (Int × Int)} {x4 x5 : Z.Slot} (ho : o ≠ 0) (nd : ids.Nodup) (hl : ids.length ≤ 7) (hB : ∀ c, (o, c) ∉ B) (hBl : B.length ≤ 49) :
    ∃ y5, evS (Z.run T n) (.for_ (.nm 5) (.seq (.var 1)) b__law_closure_l1) (rc es ids (R0 es) B (.fz (.int o)) x4 x5) S = some (.nxt (rc es ids (R0 es) (B ++ ids.map fun c => (o, c)) (.fz (.int o)) x4 y5) S) := by
  obtain ⟨ρ', S', e1, rfl, y5, rfl⟩ := for_map (G := Z.run T n) (t := .nm 5) (b := b__law_closure_l1) (ρ := rc es ids (R0 es) B (.fz (.int o)) x4 x5) (S := S) (S1 := S) D.int ids (fun p ρ S' => S' = S ∧ ∃ y5, ρ = rc es ids (R0 es) (B ++ p.map fun c => (o, c)) (.fz (.int o)) x4 y5) (fun n z => by cases z) walk_ids ⟨rfl, x5, by simp⟩ (fun p x q hq ρ S' hP => by
      obtain ⟨rfl, y5, rfl⟩ := hP
      have hp : p.length ≤ 7 := by
        have := congrArg List.length hq
        simp at this; omega
      have hx := split_nd hq nd
      have nin : (o, x) ∉ B ++ p.map fun c => (o, c) := by
        intro h
        rcases List.mem_append.mp h with h | h
        · exact hB x h
        · obtain ⟨y, hy, e⟩ := List.mem_map.mp h
          cases e
          exact hx hy
      have s := set_new (R := R0 es) ho nin (by simp; omega)
      have i := in_eD es o x
      have e0 : (R0 es o x) = decide ((o, x) ∈ es) := rfl
      rw [e0] at s
      refine ⟨rc es ids (R0 es) (B ++ p.map fun c => (o, c)) (.fz (.int o)) x4 (.fz (.int x)), rc es ids (R0 es) (B ++ (p ++ [x]).map fun c => (o, c)) (.fz (.int o)) x4 (.fz (.int x)), S', rfl, ?_, rfl, _, rfl⟩
      rw [List.map_append, List.map_singleton, ← List.append_assoc]
      generalize B ++ p.map (fun c => (o, c)) = B2 at *
      unfold rc
      simp -implicitDefEqProofs [b__law_closure_l1, hOf, i, s, putC, len2])
  exact ⟨y5, e1⟩
def prs (p ids : List Int) : List (Int × Int) := p.flatMap fun a => ids.map fun c => (a, c)
theorem prs_len : ∀ p : List Int, (prs p ids).length = p.length * ids.length
  | [] => by simp [prs]
  | a :: p => by
    have := prs_len p
    unfold prs at this ⊢
    rw [List.flatMap_cons, List.length_append, this, List.length_map, List.length_cons, Nat.add_mul, Nat.one_mul, Nat.add_comm]
theorem prs_mem {p : List Int} {a c : Int} : (a, c) ∈ prs p ids ↔ a ∈ p ∧ c ∈ ids := by
  unfold prs
  simp [List.mem_flatMap]
theorem out1 (nd : ids.Nodup) (hl : ids.length ≤ 7) (nz : ∀ a ∈ ids, a ≠ 0) {x3 x4 x5 : Z.Slot} :
    ∃ y3 y5, evS (Z.run T n) (.for_ (.nm 3) (.seq (.var 1)) b__law_closure_l0) (rc es ids (R0 es) [] x3 x4 x5) S = some (.nxt (rc es ids (R0 es) (prs ids ids) y3 x4 y5) S) := by
  obtain ⟨ρ', S', e1, rfl, y3, y5, rfl⟩ := for_map (G := Z.run T n) (t := .nm 3) (b := b__law_closure_l0) (ρ := rc es ids (R0 es) [] x3 x4 x5) (S := S) (S1 := S) D.int ids (fun p ρ S' => S' = S ∧ ∃ y3 y5, ρ = rc es ids (R0 es) (prs p ids) y3 x4 y5) (fun n z => by cases z) walk_ids ⟨rfl, x3, x5, rfl⟩ (fun p x q hq ρ S' hP => by
      obtain ⟨rfl, y3, y5, rfl⟩ := hP
      have hp : p.length + 1 ≤ 7 := by
        have := congrArg List.length hq
        simp at this; omega
      have hx := split_nd hq nd
      have hm : p.length * ids.length ≤ 6 * 7 := Nat.mul_le_mul (by omega) hl
      obtain ⟨z5, e⟩ := in1 (n := n) (S := S') (es := es) (o := x) (B := prs p ids) (x4 := x4) (x5 := y5) (nz x (by rw [hq]; simp)) nd hl (fun c h => hx (prs_mem.mp h).1) (by rw [prs_len]; omega)
      refine ⟨rc es ids (R0 es) (prs p ids) (.fz (.int x)) x4 y5, rc es ids (R0 es) (prs p ids ++ ids.map fun c => (x, c)) (.fz (.int x)) x4 z5, S', rfl, ?_, rfl, .fz (.int x), z5, ?_⟩
      · show evSs _ (.cons (.for_ (.nm 5) (.seq (.var 1)) b__law_closure_l1) .nil) _ _ = _
        rw [seq1 e, evSs]
      · unfold prs
        simp)
  exact ⟨y3, y5, e1⟩
theorem in2 {m o : Int} {R : A32.M} {p : List Int} {x5 : Z.Slot} (ho : o ∈ ids) (hm : m ∈ ids) (nz : ∀ a ∈ ids, a ≠ 0) (hl : ids.length ≤ 7) :
    ∃ y5, evS (Z.run T n) (.for_ (.nm 5) (.seq (.var 1)) b__law_closure_l4) (rc es ids (A32.part m R p o []) (prs ids ids) (.fz (.int o)) (.fz (.int m)) x5) S = some (.nxt (rc es ids (A32.part m R p o ids) (prs ids ids) (.fz (.int o)) (.fz (.int m)) y5) S) := by
  have hL : (prs ids ids).length ≤ 49 := by rw [prs_len]; exact Nat.mul_le_mul hl hl
  obtain ⟨ρ', S', e1, rfl, y5, rfl⟩ := for_map (G := Z.run T n) (t := .nm 5) (b := b__law_closure_l4) (ρ := rc es ids (A32.part m R p o []) (prs ids ids) (.fz (.int o)) (.fz (.int m)) x5) (S := S) (S1 := S) D.int ids (fun q ρ S' => S' = S ∧ ∃ y5, ρ = rc es ids (A32.part m R p o q) (prs ids ids) (.fz (.int o)) (.fz (.int m)) y5) (fun n z => by cases z) walk_ids ⟨rfl, x5, rfl⟩ (fun q x r hq ρ S' hP => by
      obtain ⟨rfl, y5, rfl⟩ := hP
      have hx : x ∈ ids := by rw [hq]; simp
      have i1 := idx_tab (R := A32.part m R p o q) (nz o ho) (prs_mem.mpr ⟨ho, hx⟩)
      have i2 := idx_tab (R := A32.part m R p o q) (nz o ho) (prs_mem.mpr ⟨ho, hm⟩)
      have i3 := idx_tab (R := A32.part m R p o q) (nz m hm) (prs_mem.mpr ⟨hm, hx⟩)
      have s := set_old (R := A32.part m R p o q) (b := A32.part m R p o q o x || (A32.part m R p o q o m && A32.part m R p o q m x)) (nz o ho) (prs_mem.mpr ⟨ho, hx⟩) (by omega)
      rw [A32.part_step] at s
      refine ⟨rc es ids (A32.part m R p o q) (prs ids ids) (.fz (.int o)) (.fz (.int m)) (.fz (.int x)), rc es ids (A32.part m R p o (q ++ [x])) (prs ids ids) (.fz (.int o)) (.fz (.int m)) (.fz (.int x)), S', rfl, ?_, rfl, _, rfl⟩
      generalize hA : A32.part m R p o q = A at *
      generalize hB : A32.part m R p o (q ++ [x]) = B at *
      generalize prs ids ids = L at *
      unfold rc
      cases h1 : A o x with
      | true =>
        rw [h1] at i1 s
        simp only [Bool.true_or] at s
        simp -implicitDefEqProofs [b__law_closure_l4, hOf, i1, s, putC, len2]
      | false =>
        cases h2 : A o m with
        | true =>
          rw [h1] at i1 s
          rw [h2] at i2 s
          simp only [Bool.false_or, Bool.true_and] at s
          simp -implicitDefEqProofs [b__law_closure_l4, hOf, i1, i2, i3, s, putC, len2]
        | false =>
          rw [h1] at i1 s
          rw [h2] at i2 s
          simp only [Bool.false_or, Bool.false_and] at s
          simp -implicitDefEqProofs [b__law_closure_l4, hOf, i1, i2, s, putC, len2])
  exact ⟨y5, e1⟩
theorem out2 {m : Int} {R : A32.M} {x3 x5 : Z.Slot} (hm : m ∈ ids) (nz : ∀ a ∈ ids, a ≠ 0) (hl : ids.length ≤ 7) :
    ∃ y3 y5, evS (Z.run T n) (.for_ (.nm 3) (.seq (.var 1)) b__law_closure_l3) (rc es ids R (prs ids ids) x3 (.fz (.int m)) x5) S = some (.nxt (rc es ids (A32.W m R) (prs ids ids) y3 (.fz (.int m)) y5) S) := by
  have c0 : tab R (prs ids ids) = tab (A32.part m R [] 0 []) (prs ids ids) := tab_congr fun q _ => by rw [A32.part_start]; simp
  obtain ⟨ρ', S', e1, rfl, y3, y5, rfl⟩ := for_map (G := Z.run T n) (t := .nm 3) (b := b__law_closure_l3) (ρ := rc es ids R (prs ids ids) x3 (.fz (.int m)) x5) (S := S) (S1 := S) D.int ids (fun p ρ S' => S' = S ∧ ∃ y3 y5, ρ = rc es ids (A32.part m R p 0 []) (prs ids ids) y3 (.fz (.int m)) y5) (fun n z => by cases z) walk_ids ⟨rfl, x3, x5, by unfold rc; rw [c0]⟩ (fun p x q hq ρ S' hP => by
      obtain ⟨rfl, y3, y5, rfl⟩ := hP
      have hx : x ∈ ids := by rw [hq]; simp
      obtain ⟨z5, e⟩ := in2 (n := n) (S := S') (es := es) (R := R) (p := p) (x5 := y5) hx hm nz hl
      have c1 : A32.part m R p 0 [] = A32.part m R p x [] := by funext a c; rw [A32.part_start, A32.part_start]
      have c2 : tab (A32.part m R p x ids) (prs ids ids) = tab (A32.part m R (p ++ [x]) 0 []) (prs ids ids) := tab_congr fun q hq => A32.part_turn (prs_mem.mp hq).2
      refine ⟨rc es ids (A32.part m R p 0 []) (prs ids ids) (.fz (.int x)) (.fz (.int m)) y5, rc es ids (A32.part m R p x ids) (prs ids ids) (.fz (.int x)) (.fz (.int m)) z5, S', rfl, ?_, rfl, .fz (.int x), z5, ?_⟩
      · show evSs _ (.cons (.for_ (.nm 5) (.seq (.var 1)) b__law_closure_l4) .nil) _ _ = _
        rw [c1, seq1 e, evSs]
      · unfold rc
        rw [c2])
  have c3 : tab (A32.part m R ids 0 []) (prs ids ids) = tab (A32.W m R) (prs ids ids) := tab_congr fun q hq => A32.part_full (prs_mem.mp hq).1
  refine ⟨y3, y5, e1.trans ?_⟩
  unfold rc
  rw [c3]
theorem out3 {x3 x4 x5 : Z.Slot} (nz : ∀ a ∈ ids, a ≠ 0) (hl : ids.length ≤ 7) :
    ∃ R y3 y4 y5, evS (Z.run T n) (.for_ (.nm 4) (.seq (.var 1)) b__law_closure_l2) (rc es ids (R0 es) (prs ids ids) x3 x4 x5) S = some (.nxt (rc es ids R (prs ids ids) y3 y4 y5) S) ∧ A32.Cl es ids ids R := by
  obtain ⟨ρ', S', e1, rfl, R, y3, y4, y5, rfl, C⟩ := for_map (G := Z.run T n) (t := .nm 4) (b := b__law_closure_l2) (ρ := rc es ids (R0 es) (prs ids ids) x3 x4 x5) (S := S) (S1 := S) D.int ids (fun p ρ S' => S' = S ∧ ∃ R y3 y4 y5, ρ = rc es ids R (prs ids ids) y3 y4 y5 ∧ A32.Cl es ids p R) (fun n z => by cases z) walk_ids ⟨rfl, R0 es, x3, x4, x5, rfl, A32.cl_start es ids⟩ (fun p x q hq ρ S' hP => by
      obtain ⟨rfl, R, y3, y4, y5, rfl, C⟩ := hP
      have hx : x ∈ ids := by rw [hq]; simp
      obtain ⟨z3, z5, e⟩ := out2 (n := n) (S := S') (es := es) (R := R) (x3 := y3) (x5 := y5) hx nz hl
      refine ⟨rc es ids R (prs ids ids) y3 (.fz (.int x)) y5, rc es ids (A32.W x R) (prs ids ids) z3 (.fz (.int x)) z5, S', rfl, ?_, rfl, A32.W x R, z3, _, z5, rfl, A32.cl_step C⟩
      show evSs _ (.cons (.for_ (.nm 3) (.seq (.var 1)) b__law_closure_l3) .nil) _ _ = _
      rw [seq1 e, evSs])
  exact ⟨R, y3, y4, y5, e1, C⟩
theorem clos_ok (nd : ids.Nodup) (hl : ids.length ≤ 7) (nz : ∀ a ∈ ids, a ≠ 0) (hin : ∀ e ∈ es, e.1 ∈ ids ∧ e.2 ∈ ids) : ∃ R : A32.M, runF T (n + 1) ("_law_closure", none) [.lst (es.map eD), .lst (ids.map .int)] S = some (.dT (tab R (prs ids ids)), S) ∧ ∀ a c, R a c = true ↔ A32.Path es a c := by
  obtain ⟨y3, y5, e1⟩ := out1 (n := n) (S := S) (es := es) (x3 := .un) (x4 := .un) (x5 := .un) nd hl nz
  obtain ⟨R, z3, z4, z5, e2, C⟩ := out3 (n := n) (S := S) (es := es) (x3 := y3) (x4 := .un) (x5 := y5) nz hl
  refine ⟨R, ?_, A32.cl_end C hin⟩
  rw [run_def at_clos _ S rfl]
  show (evSs (Z.run T n) b__law_closure [.fz (.lst (es.map eD)), .fz (.lst (ids.map .int)), .un, .un, .un, .un] S).bind outR = _
  have q0 : evS (Z.run T n) (.own 2 (.dnew true)) [.fz (.lst (es.map eD)), .fz (.lst (ids.map .int)), .un, .un, .un, .un] S = some (.nxt (rc es ids (R0 es) [] .un .un .un) S) := by
    simp -implicitDefEqProofs [isFresh, rc, tab]
  have : b__law_closure = .cons (.own 2 (.dnew true)) (.cons (.for_ (.nm 3) (.seq (.var 1)) b__law_closure_l0) (.cons (.for_ (.nm 4) (.seq (.var 1)) b__law_closure_l2) (.frz 2 (.cons (.ret (.var 2)) .nil)))) := rfl
  rw [this, seq1 q0, seq1 e1, seq1 e2]
  unfold rc
  simp -implicitDefEqProofs
  rfl
end
end K32

set_option Elab.async false
set_option linter.all false
set_option maxRecDepth 100000
set_option maxHeartbeats 1000000
namespace K32
open PySem PySem.Spec PyProof.Rows L2 Z
def law0 : Sm := (.asg (.nm 1) (.call "_law_state" (.cons (.var 0) .nil)))
def law1 : Sm := (.asg (.nm 2) (.sl (.list (.cons (.cst (.int 1)) (.cons (.cst (.int 2)) (.cons (.cst (.int 3)) (.cons (.cst (.int 5)) (.cons (.cst (.int 8)) (.cons (.cst (.int 13)) (.cons (.cst (.int 40)) .nil)))))))) .nil (.cons (.bin .Add (.cst (.int 2)) (.call "_law_draw" (.cons (.var 1) (.cons (.cst (.int 6)) .nil)))) .nil)))
def law2 : Sm := (.own 3 (.list .nil))
def law3b0 : Sm := (.asg (.nm 6) (.call "_law_pick" (.cons (.var 1) (.cons (.var 2) .nil))))
def law3b1 : Sm := (.app (.var 3) (.tup (.cons (.var 6) (.cons (.call "_law_pick" (.cons (.var 1) (.cons (.comp (.nm 13) (.seq (.var 2)) (.cons (.cmp .NotEq (.var 13) (.var 6)) .nil) (.var 13)) .nil))) .nil))))
def law3b : Sms := (.cons law3b0 (.cons law3b1 .nil))
def law3 : Sm := (.for_ (.nm 4) (.rng (.call "_law_draw" (.cons (.var 1) (.cons (.cst (.int 15)) .nil)))) law3b)
def law4 : Sm := (.own 5 (.dnew false))
def law5b0 : Sm := (.ife (.cmp .Gt (.call "_law_draw" (.cons (.var 1) (.cons (.cst (.int 4)) .nil))) (.cst (.int 0))) (.cons (.seti (.var 5) (.var 6) (.call "_law_pick" (.cons (.var 1) (.cons (.list (.cons (.cst (.int 1)) (.cons (.cst (.int 5)) (.cons (.cst (.int 5)) (.cons (.cst (.int 1000)) .nil))))) .nil)))) .nil) .nil)
def law5b : Sms := (.cons law5b0 .nil)
def law5 : Sm := (.for_ (.nm 6) (.seq (.var 2)) law5b)
def law6 : Sm := (.asg (.nm 7) (.blt .repr (.cons (.list (.cons (.var 3) (.cons (.var 5) .nil))) .nil)))
def law7b0 : Sm := (.asg (.nm 9) (.call "_law_closure" (.cons (.var 3) (.cons (.var 2) .nil))))
def law7b1 : Sm := (.asg (.nm 10) (.comp (.nm 6) (.seq (.var 2)) (.cons (.idx (.var 9) (.tup (.cons (.var 6) (.cons (.var 6) .nil)))) .nil) (.var 6)))
def law7b2 : Sm := (.ife (.cmp .NotEq (.call "in_rings" (.cons (.blt .list (.cons (.var 3) .nil)) .nil)) (.var 10)) (.cons (.ret (.cst (.bl false))) .nil) .nil)
def law7b3 : Sm := (.asg (.nm 11) (.cst .non))
def law7b4b0 : Sm := (.ife (.or (.iso false (.var 11) (.cst .non)) (.cmp .Lt (.getd (.var 5) (.var 6) (.cst (.int 0))) (.getd (.var 5) (.var 11) (.cst (.int 0))))) (.cons (.asg (.nm 11) (.var 6)) .nil) .nil)
def law7b4b : Sms := (.cons law7b4b0 .nil)
def law7b4 : Sm := (.for_ (.nm 6) (.seq (.var 10)) law7b4b)
def law7b5 : Sm := (.ife (.cmp .NotEq (.call "victim" (.cons (.blt .list (.cons (.var 3) .nil)) (.cons (.var 5) .nil))) (.var 11)) (.cons (.ret (.cst (.bl false))) .nil) .nil)
def law7b6 : Sm := (.ife (.and (.cmp .Eq (.var 8) (.cst (.int 0))) (.cmp .NotEq (.blt .repr (.cons (.list (.cons (.var 3) (.cons (.var 5) .nil))) .nil)) (.var 7))) (.cons (.ret (.cst (.bl false))) .nil) .nil)
def law7b7 : Sm := (.ife (.iso false (.var 11) (.cst .non)) (.cons (.ret (.cst (.bl true))) .nil) .nil)
def law7b8 : Sm := (.asg (.nm 3) (.comp (.nm 12) (.seq (.var 3)) (.cons (.cmp .NotIn (.var 11) (.var 12)) .nil) (.var 12)))
def law7b : Sms := (.cons law7b0 (.cons law7b1 (.cons law7b2 (.cons law7b3 (.cons law7b4 (.cons law7b5 (.cons law7b6 (.cons law7b7 (.cons law7b8 .nil)))))))))
def law7 : Sm := (.for_ (.nm 8) (.rng (.bin .Add (.blt .len (.cons (.var 2) .nil)) (.cst (.int 1)))) law7b)
def law8 : Sm := (.ret (.cst (.bl false)))
def lawb : Sms := (.cons law0 (.cons law1 (.cons law2 (.cons law3 (.cons law4 (.cons law5 (.frz 5 (.frz 3 (.cons law6 (.cons law7 (.cons law8 .nil)))))))))))
theorem law_eq : b_law = lawb := rfl
def IDS : List Int := [1, 2, 3, 5, 8, 13, 40]
abbrev E (x0 : Z.Slot) (st : Nat) (ids : List Int) (x3 x4 x5 x6 x7 x8 x9 x10 x11 : Z.Slot) : Env' := [x0, .fz (.ref st), .fz (.lst (ids.map .int)), x3, x4, x5, x6, x7, x8, x9, x10, x11, .un, .un]
structure Ids (ids : List Int) : Prop where
  pw : ids.Pairwise (· < ·)
  len : 2 ≤ ids.length ∧ ids.length ≤ 7
  mem : ∀ x ∈ ids, x ∈ IDS
theorem Ids.nd {ids : List Int} (I : Ids ids) : ids.Nodup := I.pw.imp fun h => by omega
theorem Ids.nz {ids : List Int} (I : Ids ids) : ∀ a ∈ ids, a ≠ 0 := fun a h => by
  have := I.mem a h
  simp [IDS] at this; omega
theorem Ids.other {ids : List Int} (I : Ids ids) {one : Int} (h : one ∈ ids) : 0 < (ids.filter fun o => !decide (o = one)).length := by
  obtain ⟨l1, l2⟩ := I.len
  have nd := I.nd
  match ids, l1, nd with
  | a :: b :: r, _, nd =>
    have hab : a ≠ b := fun e => by subst e; simp at nd
    by_cases c : a = one
    · have : b ≠ one := fun e => hab (c.trans e.symm)
      rw [List.filter_cons, List.filter_cons]
      simp [c, this]
    · rw [List.filter_cons]
      simp [c]
def InI (ids : List Int) (es : List (Int × Int)) : Prop := ∀ e ∈ es, e.1 ∈ ids ∧ e.2 ∈ ids
section
variable {n st c : Nat} {S : Store} {seed : Int} {cs : List Int} {ids : List Int} {es ps : List (Int × Int)} {x0 x3 x4 x5 x6 x7 x8 x9 x10 x11 : Z.Slot}
theorem pick_ok (R : Rnd2 S st c seed cs) {α : Type} (f : α → D) (xs : List α) (h0 : 0 < xs.length) (hl : xs.length < 1000) : ∃ x ∈ xs, ∃ S', runF T (n + 2) ("_law_pick", none) [.ref st, .lst (xs.map f)] S = some (f x, S') ∧ Went2 S st c S' := by
  obtain ⟨v, S1, e1, d1, w1⟩ := draw_ok at_draw (n := n) R (xs.length : Int) (by omega)
  obtain ⟨x, hx, e⟩ := atI_in (f := f) (d1 (by omega))
  refine ⟨x, hx, S1, ?_, w1⟩
  rw [run_def at_pick _ S rfl]
  show (evSs (Z.run T (n + 1)) b__law_pick [.fz (.ref st), .fz (.lst (xs.map f))] S).bind outR = _
  simp -implicitDefEqProofs [b__law_pick, hOf, e1, e, outR]
theorem ids_ok (v : Int) (h : 0 ≤ v ∧ v < 6) : Ids (IDS.take (2 + v).toNat) ∧ cutL (IDS.map D.int) none (some (2 + v)) = (IDS.take (2 + v).toNat).map .int := by
  have : v = 0 ∨ v = 1 ∨ v = 2 ∨ v = 3 ∨ v = 4 ∨ v = 5 := by omega
  have z : ∀ k ∈ [2, 3, 4, 5, 6, 7], (IDS.take k).Pairwise (· < ·) ∧ (2 ≤ (IDS.take k).length ∧ (IDS.take k).length ≤ 7) ∧ (∀ x ∈ IDS.take k, x ∈ IDS) := by decide +kernel
  rcases this with rfl | rfl | rfl | rfl | rfl | rfl
  · exact ⟨⟨(z 2 (by decide)).1, (z 2 (by decide)).2.1, (z 2 (by decide)).2.2⟩, by rfl⟩
  · exact ⟨⟨(z 3 (by decide)).1, (z 3 (by decide)).2.1, (z 3 (by decide)).2.2⟩, by rfl⟩
  · exact ⟨⟨(z 4 (by decide)).1, (z 4 (by decide)).2.1, (z 4 (by decide)).2.2⟩, by rfl⟩
  · exact ⟨⟨(z 5 (by decide)).1, (z 5 (by decide)).2.1, (z 5 (by decide)).2.2⟩, by rfl⟩
  · exact ⟨⟨(z 6 (by decide)).1, (z 6 (by decide)).2.1, (z 6 (by decide)).2.2⟩, by rfl⟩
  · exact ⟨⟨(z 7 (by decide)).1, (z 7 (by decide)).2.1, (z 7 (by decide)).2.2⟩, by rfl⟩
theorem l1_ok' (R : Rnd2 S st c seed cs) : ∃ ids S', evS (Z.run T (n + 1)) law1 [x0, .fz (.ref st), .un, .un, .un, .un, .un, .un, .un, .un, .un, .un, .un, .un] S = some (.nxt (E x0 st ids .un .un .un .un .un .un .un .un .un) S') ∧ Ids ids ∧ Went2 S st c S' := by
  obtain ⟨v, S1, e1, d1, w1⟩ := draw_ok at_draw (n := n) R 6 (by decide)
  obtain ⟨i, k⟩ := ids_ok v (d1 (by decide))
  refine ⟨_, S1, ?_, i, w1⟩
  simp only [IDS, List.map_cons, List.map_nil] at k
  simp -implicitDefEqProofs [law1, hOf, Cst.d, e1, k, slD, show (7 : Nat) ≤ sizeLine by decide, bindT, ixO]
  rfl
theorem other_ok (I : Ids ids) {one : Int} (S : Store) : evE (Z.run T n) (.comp (.nm 13) (.seq (.var 2)) (.cons (.cmp .NotEq (.var 13) (.var 6)) .nil) (.var 13)) (E x0 st ids x3 x4 x5 (.fz (.int one)) x7 x8 x9 x10 x11) S = some (.lst ((ids.filter fun o => !decide (o = one)).map .int), S) := by
  exact comp_keeph (G := Z.run T n) (i := 13) (it := .seq (.var 2)) (c := .cmp .NotEq (.var 13) (.var 6)) (ρ := E x0 st ids x3 x4 x5 (.fz (.int one)) x7 x8 x9 x10 x11) (S := S) (S1 := S) (w := .val (.lst (ids.map .int))) D.int ids (fun o => !decide (o = one)) rfl rfl (by simp -implicitDefEqProofs [hOf]) (show 13 < 14 by decide) (fun x hx => by
    simp -implicitDefEqProofs [hOf, ne_ii]) (by have := I.len; omega)
theorem edge_ok (I : Ids ids) (hE : InI ids es) (hl : es.length ≤ 15) (R : Rnd2 S st c seed cs) : ∃ e S', evSs (Z.run T (n + 2)) law3b (E x0 st ids (.own (.lst (es.map eD))) x4 x5 x6 x7 x8 x9 x10 x11) S = some (.nxt (E x0 st ids (.own (.lst ((es ++ [e]).map eD))) x4 x5 (.fz (.int e.1)) x7 x8 x9 x10 x11) S') ∧ InI ids (es ++ [e]) ∧ Went2 S st c S' := by
  have big : (1000 : Nat) ≤ sizeLine := by decide
  obtain ⟨one, ho, S1, e1, w1⟩ := pick_ok (n := n) R D.int ids (by have := I.len; omega) (by have := I.len; omega)
  obtain ⟨sd, cs1, R1⟩ := w1.1
  obtain ⟨oth, ho2, S2, e2, w2⟩ := pick_ok (n := n) R1 D.int (ids.filter fun o => !decide (o = one)) (I.other ho) (by have := I.len; have := List.length_filter_le (fun o => !decide (o = one)) ids; omega)
  refine ⟨(one, oth), S2, ?_, fun e he => ?_, w1.trans w2⟩
  · have e3 := other_ok (n := n + 2) (x0 := x0) (st := st) (x3 := .own (.lst (es.map eD))) (x4 := x4) (x5 := x5) (x7 := x7) (x8 := x8) (x9 := x9) (x10 := x10) (x11 := x11) (one := one) I S1
    have q1 : evS (Z.run T (n + 2)) law3b0 (E x0 st ids (.own (.lst (es.map eD))) x4 x5 x6 x7 x8 x9 x10 x11) S = some (.nxt (E x0 st ids (.own (.lst (es.map eD))) x4 x5 (.fz (.int one)) x7 x8 x9 x10 x11) S1) := by
      simp -implicitDefEqProofs [law3b0, hOf, e1, bindT]
    have l : es.length < sizeLine := by omega
    rw [law3b, seq1 q1]
    simp -implicitDefEqProofs [law3b1, hOf, e3, e2, len2, l, putC, eD, isLst]
  · rcases List.mem_append.mp he with he | he
    · exact hE e he
    · simp at he
      subst he
      exact ⟨ho, (List.mem_filter.mp ho2).1⟩
theorem l3_ok (I : Ids ids) (R : Rnd2 S st c seed cs) (n6 : nOwn x6 = true) : ∃ es y4 y6 S', evS (Z.run T (n + 2)) law3 (E x0 st ids (.own (.lst [])) x4 x5 x6 x7 x8 x9 x10 x11) S = some (.nxt (E x0 st ids (.own (.lst (es.map eD))) y4 x5 y6 x7 x8 x9 x10 x11) S') ∧ nOwn y6 = true ∧ InI ids es ∧ es.length ≤ 14 ∧ Went2 S st c S' := by
  obtain ⟨v, S1, e1, d1, w1⟩ := draw_ok at_draw (n := n + 1) R 15 (by decide)
  have d1 := d1 (by decide)
  obtain ⟨sd, cs1, R1⟩ := w1.1
  have sm : smallI v = true := by unfold smallI; simp; omega
  have hi : evI (Z.run T (n + 2)) (.rng (.call "_law_draw" (.cons (.var 1) (.cons (.cst (.int 15)) .nil)))) (E x0 st ids (.own (.lst [])) x4 x5 x6 x7 x8 x9 x10 x11) S = some (.val .non, (List.range v.toNat).map fun (j : Nat) => D.int (0 + (j : Int)), S1) := by
    simp -implicitDefEqProofs [hOf, Cst.d, e1, sm, rngD]
  obtain ⟨ρ', S', e2, es, y4, y6, rfl, n6, hE, hl, w⟩ := for_map (G := Z.run T (n + 2)) (t := .nm 4) (b := law3b) (fun (j : Nat) => D.int (0 + (j : Int))) (List.range v.toNat) (fun p ρ S' => ∃ es y4 y6, ρ = E x0 st ids (.own (.lst (es.map eD))) y4 x5 y6 x7 x8 x9 x10 x11 ∧ nOwn y6 = true ∧ InI ids es ∧ es.length = p.length ∧ Went2 S1 st c S') (fun n z => by cases z) hi ⟨[], x4, x6, rfl, n6, fun e h => by simp at h, rfl, ⟨sd, cs1, R1⟩, rfl, fun _ _ _ => rfl⟩ (fun p x q hq ρ S2 hP => by
      obtain ⟨es, y4, y6, rfl, n6, hE, hl, w⟩ := hP
      have hp : p.length < 15 := by
        have := congrArg List.length hq
        simp at this; omega
      obtain ⟨sd2, cs2, R2⟩ := w.1
      obtain ⟨e, S3, e3, hE3, w3⟩ := edge_ok (n := n) (x0 := x0) (x4 := .fz (.int (0 + (x : Int)))) (x5 := x5) (x6 := y6) (x7 := x7) (x8 := x8) (x9 := x9) (x10 := x10) (x11 := x11) I hE (by omega) R2
      exact ⟨_, _, S3, rfl, e3, es ++ [e], _, _, rfl, rfl, hE3, by simp [hl], w.trans w3⟩)
  exact ⟨es, y4, y6, S', e2, n6, hE, by rw [hl]; simp; omega, w1.trans w⟩
def PRI : List Int := [1, 5, 5, 1000]
def InP (ids : List Int) (ps : List (Int × Int)) : Prop := ∀ e ∈ ps, e.1 ∈ ids ∧ e.2 ∈ PRI
theorem put_pK (ps : List (Int × Int)) (x v : Int) : ∃ ps' : List (Int × Int), dput (pK ps) (.inl x : Key) (.int v) = pK ps' ∧ ps'.length ≤ ps.length + 1 ∧ ∀ e ∈ ps', e ∈ ps ∨ e = (x, v) := by
  unfold dput
  by_cases h : (look (pK ps) (.inl x : Key)).isSome
  · refine ⟨ps.map fun e => if e.1 = x then (x, v) else e, ?_, by simp, fun e he => ?_⟩
    · rw [if_pos h]
      unfold pK
      rw [List.map_map, List.map_map]
      refine List.map_congr_left fun e _ => ?_
      by_cases c : e.1 = x <;> simp [c]
    · obtain ⟨a, ha, rfl⟩ := List.mem_map.mp he
      by_cases c : a.1 = x
      · right; simp [c]
      · left; simpa [c] using ha
  · refine ⟨ps ++ [(x, v)], ?_, by simp, fun e he => by simpa using he⟩
    rw [if_neg h]
    simp [pK]
theorem pri_ok (I : Ids ids) {one : Int} (ho : one ∈ ids) (hP : InP ids ps) (hl : ps.length ≤ 10) (R : Rnd2 S st c seed cs) : ∃ ps' S', evSs (Z.run T (n + 2)) law5b (E x0 st ids x3 x4 (.own (.dK (pK ps))) (.fz (.int one)) x7 x8 x9 x10 x11) S = some (.nxt (E x0 st ids x3 x4 (.own (.dK (pK ps'))) (.fz (.int one)) x7 x8 x9 x10 x11) S') ∧ InP ids ps' ∧ ps'.length ≤ ps.length + 1 ∧ Went2 S st c S' := by
  have big : (1000 : Nat) ≤ sizeLine := by decide
  obtain ⟨v, S1, e1, d1, w1⟩ := draw_ok at_draw (n := n + 1) R 4 (by decide)
  by_cases c0 : 0 < v
  · obtain ⟨sd, cs1, R1⟩ := w1.1
    obtain ⟨w, hw, S2, e2, w2⟩ := pick_ok (n := n) R1 D.int PRI (by decide) (by decide)
    simp only [PRI, List.map_cons, List.map_nil] at e2
    obtain ⟨ps', p1, p2, p3⟩ := put_pK ps one w
    refine ⟨ps', S2, ?_, fun e he => ?_, p2, w1.trans w2⟩
    · have l : (pK ps).length < sizeLine := by simp [pK]; omega
      simp -implicitDefEqProofs [law5b, law5b0, hOf, Cst.d, e1, gt_ii, c0, e2, show (4 : Nat) ≤ sizeLine by decide, setItem', dset, keyK, l, p1, putC]
    · rcases p3 e he with h | rfl
      · exact hP e h
      · exact ⟨ho, hw⟩
  · refine ⟨ps, S1, ?_, hP, by omega, w1⟩
    simp -implicitDefEqProofs [law5b, law5b0, hOf, Cst.d, e1, gt_ii, c0]
theorem l5_ok (I : Ids ids) (R : Rnd2 S st c seed cs) (n6 : nOwn x6 = true) : ∃ ps y6 S', evS (Z.run T (n + 2)) law5 (E x0 st ids x3 x4 (.own (.dK [])) x6 x7 x8 x9 x10 x11) S = some (.nxt (E x0 st ids x3 x4 (.own (.dK (pK ps))) y6 x7 x8 x9 x10 x11) S') ∧ nOwn y6 = true ∧ InP ids ps ∧ ps.length ≤ 7 ∧ Went2 S st c S' := by
  have hi : evI (Z.run T (n + 2)) (.seq (.var 2)) (E x0 st ids x3 x4 (.own (.dK [])) x6 x7 x8 x9 x10 x11) S = some (.val (.lst (ids.map .int)), ids.map .int, S) := by
    simp -implicitDefEqProofs [hOf]
  obtain ⟨ρ', S', e2, ps, y6, rfl, n6, hP, hl, w⟩ := for_map (G := Z.run T (n + 2)) (t := .nm 6) (b := law5b) D.int ids (fun p ρ S' => ∃ ps y6, ρ = E x0 st ids x3 x4 (.own (.dK (pK ps))) y6 x7 x8 x9 x10 x11 ∧ nOwn y6 = true ∧ InP ids ps ∧ ps.length ≤ p.length ∧ Went2 S st c S') (fun n z => by cases z) hi ⟨[], x6, rfl, n6, fun e h => by simp at h, Nat.le_refl _, ⟨seed, cs, R⟩, rfl, fun _ _ _ => rfl⟩ (fun p x q hq ρ S2 hP => by
      obtain ⟨ps, y6, rfl, n6, hP, hl, w⟩ := hP
      have hp : p.length < 7 := by
        have := congrArg List.length hq
        have := I.len
        simp at *; omega
      obtain ⟨sd2, cs2, R2⟩ := w.1
      obtain ⟨ps', S3, e3, hP3, l3, w3⟩ := pri_ok (n := n) (x0 := x0) (x3 := x3) (x4 := x4) (x7 := x7) (x8 := x8) (x9 := x9) (x10 := x10) (x11 := x11) (one := x) I (by rw [hq]; simp) hP (by omega) R2
      exact ⟨_, _, S3, rfl, e3, ps', _, rfl, rfl, hP3, by simp; omega, w.trans w3⟩)
  exact ⟨ps, y6, S', e2, n6, hP, by have := I.len; omega, w⟩
/-! ## the texts -/
theorem ids_tx (I : Ids ids) {x : Int} (h : x ∈ ids) : txI x = true := by
  have := I.mem x h
  have z : ∀ x ∈ IDS, txI x = true := by decide +kernel
  exact z x this
theorem kept_ok (I : Ids ids) (hE : InI ids es) (hl : es.length ≤ 14) (hP : InP ids ps) (hl2 : ps.length ≤ 7) : ∃ x : Str, bltD .repr [.lst [.lst (es.map eD), .dK (pK ps)]] = some (.str x) ∧ PyData.strOk x = true := by
  have zp : ∀ x ∈ PRI, txI x = true := by decide +kernel
  refine repr_small rfl ?_ ?_ ?_
  · rw [D.lf, lfs, lfs, lfs, D.lf, D.lf, lfs_map eD es fun e he => by
      rw [eD, D.lf, lfs, lfs, lfs, D.lf, D.lf, ids_tx I (hE e he).1, ids_tx I (hE e he).2]; rfl]
    unfold pK
    rw [lfk_map _ ps fun e he => ⟨by rw [txK]; exact ids_tx I (hP e he).1, by rw [D.lf]; exact zp _ (hP e he).2⟩]
    rfl
  · have h1 := dps_map eD (k := 1) es fun e _ => by simp [eD, D.dp, dps]
    have h2 := dpk_map (fun e : Int × Int => ((.inl e.1 : Key), D.int e.2)) (k := 0) ps fun e _ => by simp [D.dp]
    simp only [D.dp, dps, pK]
    omega
  · have h1 := nds_map eD (k := 3) es fun e _ => by simp [eD, D.nd, nds]
    have h2 := ndk_map (fun e : Int × Int => ((.inl e.1 : Key), D.int e.2)) (k := 1) ps fun e _ => by simp [D.nd]
    simp only [D.nd, nds, pK]
    omega
end
end K32

set_option Elab.async false
set_option linter.all false
set_option maxRecDepth 100000
set_option maxHeartbeats 1000000
namespace K32
open PySem PySem.Spec PyProof.Rows L2 Z
section
variable {n st c : Nat} {S : Store} {seed : Int} {cs : List Int} {ids : List Int} {es ps : List (Int × Int)} {x0 x3 x4 x5 x6 x7 x8 x9 x10 x11 : Z.Slot}
abbrev F (x0 : Z.Slot) (st : Nat) (ids : List Int) (es : List (Int × Int)) (x4 : Z.Slot) (ps : List (Int × Int)) (x6 : Z.Slot) (k : Str) (x8 x9 x10 x11 : Z.Slot) : Env' := E x0 st ids (.fz (.lst (es.map eD))) x4 (.fz (.dK (pK ps))) x6 (.fz (.str k)) x8 x9 x10 x11
variable {k : Str}
theorem b0_ok (I : Ids ids) (hE : InI ids es) : ∃ R : A32.M, evS (Z.run T (n + 3)) law7b0 (F x0 st ids es x4 ps x6 k x8 x9 x10 x11) S = some (.nxt (F x0 st ids es x4 ps x6 k x8 (.fz (.dT (tab R (prs ids ids)))) x10 x11) S) ∧ ∀ a b, R a b = true ↔ A32.Path es a b := by
  obtain ⟨R, e, h⟩ := clos_ok (n := n + 2) (S := S) (es := es) (ids := ids) I.nd I.len.2 I.nz hE
  refine ⟨R, ?_, h⟩
  simp -implicitDefEqProofs [law7b0, hOf, e, bindT]
theorem b1_ok (I : Ids ids) {R : A32.M} (h : ∀ a b, R a b = true ↔ A32.Path es a b) (n6 : nOwn x6 = true) : evS (Z.run T n) law7b1 (F x0 st ids es x4 ps x6 k x8 (.fz (.dT (tab R (prs ids ids)))) x10 x11) S = some (.nxt (F x0 st ids es x4 ps x6 k x8 (.fz (.dT (tab R (prs ids ids)))) (.fz (.lst ((A32.rings es ids).map .int))) x11) S) := by
  have no : noOwn (F x0 st ids es x4 ps x6 k x8 (.fz (.dT (tab R (prs ids ids)))) x10 x11) [6] = true := by cases x6 <;> first | rfl | (simp [nOwn] at n6)
  have e := comp_keeph (G := Z.run T n) (i := 6) (it := .seq (.var 2)) (c := .idx (.var 9) (.tup (.cons (.var 6) (.cons (.var 6) .nil)))) (ρ := F x0 st ids es x4 ps x6 k x8 (.fz (.dT (tab R (prs ids ids)))) x10 x11) (S := S) (S1 := S) (w := .val (.lst (ids.map .int))) D.int ids (A32.ring es) no rfl (by simp -implicitDefEqProofs [hOf]) (show 6 < 14 by decide) (fun x hx => by
    have i := idx_tab (R := R) (I.nz x hx) (prs_mem.mpr ⟨hx, hx⟩)
    rw [A32.ring_of h x] at i
    generalize tab R (prs ids ids) = L at *
    simp -implicitDefEqProofs [hOf, len2, i]) (by have := I.len; omega)
  generalize tab R (prs ids ids) = L at *
  rw [law7b1, x_evS_asg, e]
  rfl
theorem li (xs : List D) : bltD .list [.lst xs] = some (.lst xs) := rfl
theorem b2_ok (I : Ids ids) (hE : InI ids es) (hl : es.length ≤ 14) : evS (Z.run T (n + 2)) law7b2 (F x0 st ids es x4 ps x6 k x8 x9 (.fz (.lst ((A32.rings es ids).map .int))) x11) S = some (.nxt (F x0 st ids es x4 ps x6 k x8 x9 (.fz (.lst ((A32.rings es ids).map .int))) x11) S) := by
  have e := in_rings_ok (n := n) (S := S) hl I.pw hE
  have i := ints_ne (xs := A32.rings es ids) (ys := A32.rings es ids)
  simp -implicitDefEqProofs [law7b2, hOf, li, e, i]
theorem due_ok {d : Option Int} (l : List Int) (hd : x11 = .fz (dueD d)) (n6 : nOwn x6 = true) : ∃ y6, nOwn y6 = true ∧ evS (Z.run T n) law7b4 (F x0 st ids es x4 ps x6 k x8 x9 (.fz (.lst (l.map .int))) x11) S = some (.nxt (F x0 st ids es x4 ps y6 k x8 x9 (.fz (.lst (l.map .int))) (.fz (dueD (l.foldl (A32.dueStep (pri ps)) d)))) S) := by
  have hi : evI (Z.run T n) (.seq (.var 10)) (F x0 st ids es x4 ps x6 k x8 x9 (.fz (.lst (l.map .int))) x11) S = some (.val (.lst (l.map .int)), l.map .int, S) := by
    simp -implicitDefEqProofs [hOf]
  obtain ⟨ρ', S', e2, y6, rfl, n6, rfl⟩ := for_map (G := Z.run T n) (t := .nm 6) (b := law7b4b) D.int l (fun p ρ S' => ∃ y6, ρ = F x0 st ids es x4 ps y6 k x8 x9 (.fz (.lst (l.map .int))) (.fz (dueD (p.foldl (A32.dueStep (pri ps)) d))) ∧ nOwn y6 = true ∧ S' = S) (fun n z => by cases z) hi ⟨x6, by rw [hd]; rfl, n6, rfl⟩ (fun p x q hq ρ S2 hP => by
    obtain ⟨y6, rfl, n6, rfl⟩ := hP
    refine ⟨_, _, S2, rfl, ?_, .fz (.int x), rfl, rfl, rfl⟩
    rw [List.foldl_append, List.foldl_cons, List.foldl_nil]
    generalize p.foldl (A32.dueStep (pri ps)) d = d2
    cases d2 with
    | none => simp -implicitDefEqProofs [law7b4b, law7b4b0, bindT, hOf, Cst.d, dueD, isoD, D.isNon, A32.dueStep]
    | some y =>
      have g1 := getd_ok (G := Z.run T n) (ρ := (F x0 st ids es x4 ps (.fz (.int x)) k x8 x9 (.fz (.lst (l.map .int))) (.fz (.int y)))) (S := S2) (ps := ps) (i := 5) (j := 6) (x := x) rfl rfl
      have g2 := getd_ok (G := Z.run T n) (ρ := (F x0 st ids es x4 ps (.fz (.int x)) k x8 x9 (.fz (.lst (l.map .int))) (.fz (.int y)))) (S := S2) (ps := ps) (i := 5) (j := 11) (x := y) rfl rfl
      by_cases c : pri ps x < pri ps y
      · simp -implicitDefEqProofs [law7b4b, law7b4b0, bindT, hOf, Cst.d, dueD, isoD, D.isNon, A32.dueStep, -x_evE_getd, g1, g2, lt_ii, c]
      · simp -implicitDefEqProofs [law7b4b, law7b4b0, bindT, hOf, Cst.d, dueD, isoD, D.isNon, A32.dueStep, -x_evE_getd, g1, g2, lt_ii, c])
  exact ⟨y6, n6, e2⟩
theorem dueD_fit (d : Option Int) : (dueD d).fit = true := by cases d <;> simp [dueD, fit_int, fit_non]
theorem b5_ok (I : Ids ids) (hE : InI ids es) (hl : es.length ≤ 14) : evS (Z.run T (n + 3)) law7b5 (F x0 st ids es x4 ps x6 k x8 x9 x10 (.fz (dueD (A32.due (pri ps) (A32.rings es ids))))) S = some (.nxt (F x0 st ids es x4 ps x6 k x8 x9 x10 (.fz (dueD (A32.due (pri ps) (A32.rings es ids))))) S) := by
  have e := victim_ok (n := n) (S := S) (ps := ps) hl I.pw I.len.2 hE
  have ne := ne_self (dueD_fit (A32.due (pri ps) (A32.rings es ids)))
  have cc : ∀ ρ S, cont ρ S (.val (dueD (A32.due (pri ps) (A32.rings es ids)))) = some (dueD (A32.due (pri ps) (A32.rings es ids))) := fun ρ S => by
    cases A32.due (pri ps) (A32.rings es ids) <;> rfl
  generalize dueD (A32.due (pri ps) (A32.rings es ids)) = d at *
  simp -implicitDefEqProofs [law7b5, hOf, li, e, ne, cc]
theorem b6_ok {i : Nat} (h : i = 0 → bltD .repr [.lst [.lst (es.map eD), .dK (pK ps)]] = some (.str k)) (hk : PyData.strOk k = true) : evS (Z.run T n) law7b6 (F x0 st ids es x4 ps x6 k (.fz (.int (0 + (i : Int)))) x9 x10 x11) S = some (.nxt (F x0 st ids es x4 ps x6 k (.fz (.int (0 + (i : Int)))) x9 x10 x11) S) := by
  have e0 : (0 + (i : Int)) = (i : Int) := by omega
  by_cases c : i = 0
  · have r := h c
    have ne := ne_ss k k hk hk
    subst c
    simp -implicitDefEqProofs [law7b6, hOf, Cst.d, eq_ii, len2, r, ne]
  · have c' : ¬ (i : Int) = 0 := by omega
    rw [e0]
    simp -implicitDefEqProofs [law7b6, hOf, Cst.d, eq_ii, c', c]
theorem in_tup {d a b : Int} : cmpD .NotIn (.int d) (.tup [.int a, .int b]) = some (!(decide (a = d) || decide (b = d))) := by
  have h : fits [D.int a, D.int b] = true := fits_map [a, b] D.int fun _ _ => ⟨by simp [D.plain], by simp [D.dep, D.py, PyData.depth]⟩
  simp only [cmpD, fit_int, h, Bool.and_self, if_true, List.any_cons, List.any_nil, eqD_int, Bool.or_false]
theorem b8_ok {d : Int} (hl : es.length ≤ 14) : evS (Z.run T n) law7b8 (F x0 st ids es x4 ps x6 k x8 x9 x10 (.fz (.int d))) S = some (.nxt (F x0 st ids (A32.cut es d) x4 ps x6 k x8 x9 x10 (.fz (.int d))) S) := by
  have e := comp_keeph (G := Z.run T n) (i := 12) (it := .seq (.var 3)) (c := .cmp .NotIn (.var 11) (.var 12)) (ρ := F x0 st ids es x4 ps x6 k x8 x9 x10 (.fz (.int d))) (S := S) (S1 := S) (w := .val (.lst (es.map eD))) eD es (fun e => !(decide (e.1 = d) || decide (e.2 = d))) rfl rfl (by simp -implicitDefEqProofs [hOf]) (show 12 < 14 by decide) (fun x hx => by
    simp -implicitDefEqProofs [hOf, eD, in_tup]) (by omega)
  rw [law7b8, x_evS_asg, e]
  rfl
def LI (x0 : Z.Slot) (st c : Nat) (ids : List Int) (ps : List (Int × Int)) (k : Str) (i : Nat) (ρ : Env') (S : Store) : Prop := ∃ es x4 x6 x8 x9 x10 x11, ρ = F x0 st ids es x4 ps x6 k x8 x9 x10 x11 ∧ nOwn x6 = true ∧ InI ids es ∧ es.length ≤ 14 ∧ (A32.rings es ids).length + i ≤ ids.length ∧ (i = 0 → bltD .repr [.lst [.lst (es.map eD), .dK (pK ps)]] = some (.str k))
theorem turn_ok (I : Ids ids) (hk : PyData.strOk k = true) {i : Nat} {ρ : Env'} (h : LI x0 st c ids ps k i ρ S) : ∃ ρ2, bindT (.nm 8) (D.int (0 + (i : Int))) ρ = some ρ2 ∧ ∃ o, evSs (Z.run T (n + 3)) law7b ρ2 S = some o ∧ Ends (LI x0 st c ids ps k (i + 1)) (fun _ _ => False) (fun d _ => d = .bl true) o := by
  obtain ⟨es, x4, x6, x8, x9, x10, x11, rfl, n6, hE, hl, hr, hk0⟩ := h
  refine ⟨_, rfl, ?_⟩
  show ∃ o, evSs (Z.run T (n + 3)) law7b (F x0 st ids es x4 ps x6 k (.fz (.int (0 + (i : Int)))) x9 x10 x11) S = some o ∧ _
  obtain ⟨R, e0, hR⟩ := b0_ok (n := n) (S := S) (x0 := x0) (st := st) (x4 := x4) (ps := ps) (x6 := x6) (x8 := .fz (.int (0 + (i : Int)))) (x9 := x9) (x10 := x10) (x11 := x11) (k := k) I hE
  have e1 := b1_ok (n := n + 3) (S := S) (x0 := x0) (st := st) (x4 := x4) (ps := ps) (x6 := x6) (x8 := .fz (.int (0 + (i : Int)))) (x10 := x10) (x11 := x11) (k := k) I hR n6
  generalize (.fz (.dT (tab R (prs ids ids))) : Z.Slot) = y9 at *
  have e2 := b2_ok (n := n + 1) (S := S) (x0 := x0) (st := st) (x4 := x4) (ps := ps) (x6 := x6) (x8 := .fz (.int (0 + (i : Int)))) (x9 := y9) (x11 := x11) (k := k) I hE hl
  have e3 : evS (Z.run T (n + 3)) law7b3 (F x0 st ids es x4 ps x6 k (.fz (.int (0 + (i : Int)))) y9 (.fz (.lst ((A32.rings es ids).map .int))) x11) S = some (.nxt (F x0 st ids es x4 ps x6 k (.fz (.int (0 + (i : Int)))) y9 (.fz (.lst ((A32.rings es ids).map .int))) (.fz .non)) S) := by
    simp -implicitDefEqProofs [law7b3, Cst.d, bindT]
  obtain ⟨y6, m6, e4⟩ := due_ok (n := n + 3) (S := S) (x0 := x0) (st := st) (ids := ids) (es := es) (x4 := x4) (ps := ps) (x6 := x6) (x8 := .fz (.int (0 + (i : Int)))) (x9 := y9) (x11 := .fz .non) (k := k) (d := none) (A32.rings es ids) rfl n6
  have e5 := b5_ok (n := n) (S := S) (x0 := x0) (st := st) (x4 := x4) (ps := ps) (x6 := y6) (x8 := .fz (.int (0 + (i : Int)))) (x9 := y9) (x10 := .fz (.lst ((A32.rings es ids).map .int))) (k := k) I hE hl
  have e6 := b6_ok (n := n + 3) (S := S) (x0 := x0) (st := st) (ids := ids) (x4 := x4) (x6 := y6) (x9 := y9) (x10 := .fz (.lst ((A32.rings es ids).map .int))) (x11 := .fz (dueD (A32.due (pri ps) (A32.rings es ids)))) hk0 hk
  rw [show List.foldl (A32.dueStep (pri ps)) none (A32.rings es ids) = A32.due (pri ps) (A32.rings es ids) from rfl] at e4
  rw [law7b, seq1 e0, seq1 e1, seq1 e2, seq1 e3, seq1 e4, seq1 e5, seq1 e6]
  cases hd : A32.due (pri ps) (A32.rings es ids) with
  | none =>
    refine ⟨.ret (.bl true) S, ?_, rfl⟩
    simp -implicitDefEqProofs [law7b7, hOf, Cst.d, dueD, isoD, D.isNon]
  | some d =>
    have e8 := b8_ok (n := n + 3) (S := S) (x0 := x0) (st := st) (ids := ids) (es := es) (x4 := x4) (ps := ps) (x6 := y6) (x8 := .fz (.int (0 + (i : Int)))) (x9 := y9) (x10 := .fz (.lst ((A32.rings es ids).map .int))) (k := k) (d := d) hl
    refine ⟨.nxt (F x0 st ids (A32.cut es d) x4 ps y6 k (.fz (.int (0 + (i : Int)))) y9 (.fz (.lst ((A32.rings es ids).map .int))) (.fz (.int d))) S, ?_, ?_⟩
    · show evSs _ _ (F x0 st ids es x4 ps y6 k (.fz (.int (0 + (i : Int)))) y9 (.fz (.lst ((A32.rings es ids).map .int))) (.fz (.int d))) S = _
      rw [seq1 (s := law7b7) (ρ' := F x0 st ids es x4 ps y6 k (.fz (.int (0 + (i : Int)))) y9 (.fz (.lst ((A32.rings es ids).map .int))) (.fz (.int d))) (S' := S) (by
        simp -implicitDefEqProofs [law7b7, hOf, Cst.d, dueD, isoD, D.isNon]), seq1 e8]
      rfl
    · have hm : d ∈ A32.rings es ids := (A32.due_mem _ _ _ _ hd).resolve_left (fun z => by cases z)
      have hc := A32.cut_less hm
      have hf : (A32.cut es d).length ≤ es.length := List.length_filter_le _ _
      exact ⟨A32.cut es d, _, _, _, _, _, _, rfl, m6, fun e he => hE e (List.mem_filter.mp he).1, by omega, by omega, fun z => by omega⟩
end
theorem ev (ns : List Int) (hl : ns.length ≤ 63) : ∃ S', runF conf.prog 20 ("law", none) [.ref 0] [.lck (.lst (ns.map D.int))] = some (.bl true, S') := by
  show ∃ S', runF T (19 + 1) ("law", none) [.ref 0] [.lck (.lst (ns.map D.int))] = some (.bl true, S')
  rw [run_def at_law [.ref 0] _ rfl]
  show ∃ S', (evSs (Z.run T 19) b_law [.fz (.ref 0), .un, .un, .un, .un, .un, .un, .un, .un, .un, .un, .un, .un, .un] [.lck (.lst (ns.map D.int))]).bind outR = _
  rw [law_eq]
  obtain ⟨st, c, S1, seed, cs, e0, R, _, _, _⟩ := Z.state2_ok at_state (n := 18) (S := [.lck (.lst (ns.map D.int))]) (ns := ns) rfl hl
  have q0 : evS (Z.run T 19) law0 [.fz (.ref 0), .un, .un, .un, .un, .un, .un, .un, .un, .un, .un, .un, .un, .un] [.lck (.lst (ns.map D.int))] = some (.nxt [.fz (.ref 0), .fz (.ref st), .un, .un, .un, .un, .un, .un, .un, .un, .un, .un, .un, .un] S1) := by
    simp -implicitDefEqProofs [law0, e0, bindT]
  rw [lawb, seq1 q0]
  obtain ⟨ids, S2, q1, I, w1⟩ := l1_ok' (n := 18) (x0 := .fz (.ref 0)) R
  obtain ⟨sd2, cs2, R2⟩ := w1.1
  have q2 : evS (Z.run T 19) law2 (E (.fz (.ref 0)) st ids .un .un .un .un .un .un .un .un .un) S2 = some (.nxt (E (.fz (.ref 0)) st ids (.own (.lst [])) .un .un .un .un .un .un .un .un) S2) := by
    simp -implicitDefEqProofs [law2, isFresh]
  rw [seq1 q1, seq1 q2]
  obtain ⟨es, y4, y6, S3, q3, n6, hE, hl, w3⟩ := l3_ok (n := 17) (x0 := .fz (.ref 0)) (x4 := .un) (x5 := .un) (x6 := .un) (x7 := .un) (x8 := .un) (x9 := .un) (x10 := .un) (x11 := .un) I R2 rfl
  obtain ⟨sd3, cs3, R3⟩ := w3.1
  have q4 : evS (Z.run T 19) law4 (E (.fz (.ref 0)) st ids (.own (.lst (es.map eD))) y4 .un y6 .un .un .un .un .un) S3 = some (.nxt (E (.fz (.ref 0)) st ids (.own (.lst (es.map eD))) y4 (.own (.dK [])) y6 .un .un .un .un .un) S3) := by
    simp -implicitDefEqProofs [law4, isFresh]
  rw [seq1 q3, seq1 q4]
  obtain ⟨ps, z6, S4, q5, n6, hP, hl2, w5⟩ := l5_ok (n := 17) (x0 := .fz (.ref 0)) (x3 := .own (.lst (es.map eD))) (x4 := y4) (x7 := .un) (x8 := .un) (x9 := .un) (x10 := .un) (x11 := .un) I R3 n6
  obtain ⟨k, r, hk⟩ := kept_ok I hE hl hP hl2
  rw [seq1 q5]
  have q6 : evS (Z.run T 19) law6 (E (.fz (.ref 0)) st ids (.fz (.lst (es.map eD))) y4 (.fz (.dK (pK ps))) z6 .un .un .un .un .un) S4 = some (.nxt (F (.fz (.ref 0)) st ids es y4 ps z6 k .un .un .un .un) S4) := by
    simp -implicitDefEqProofs [law6, hOf, len2, r, bindT]
  have fz5 : ∀ (r : Sms), evSs (Z.run T 19) (.frz 5 (.frz 3 r)) (E (.fz (.ref 0)) st ids (.own (.lst (es.map eD))) y4 (.own (.dK (pK ps))) z6 .un .un .un .un .un) S4 = evSs (Z.run T 19) r (E (.fz (.ref 0)) st ids (.fz (.lst (es.map eD))) y4 (.fz (.dK (pK ps))) z6 .un .un .un .un .un) S4 := fun r => by
    rw [x_evSs_frz]
    show evSs (Z.run T 19) (.frz 3 r) (E (.fz (.ref 0)) st ids (.own (.lst (es.map eD))) y4 (.fz (.dK (pK ps))) z6 .un .un .un .un .un) S4 = _
    rw [x_evSs_frz]
    rfl
  rw [fz5, seq1 q6]
  have sm : smallI ((ids.length : Int) + 1) = true := by have := I.len; unfold smallI; simp; omega
  have tn : ((ids.length : Int) + 1).toNat = ids.length + 1 := by omega
  have hi : evI (Z.run T 19) (.rng (.bin .Add (.blt .len (.cons (.var 2) .nil)) (.cst (.int 1)))) (F (.fz (.ref 0)) st ids es y4 ps z6 k .un .un .un .un) S4 = some (.val .non, (List.range (ids.length + 1)).map fun (j : Nat) => D.int (0 + (j : Int)), S4) := by
    have : evI (Z.run T 19) (.rng (.bin .Add (.blt .len (.cons (.var 2) .nil)) (.cst (.int 1)))) (F (.fz (.ref 0)) st ids es y4 ps z6 k .un .un .un .un) S4 = some (.val .non, rngD 0 (ids.length + 1), S4) := by
      simp -implicitDefEqProofs [hOf, Cst.d, sm, tn]
    exact this
  have h0 : LI (.fz (.ref 0)) st c ids ps k 0 (F (.fz (.ref 0)) st ids es y4 ps z6 k .un .un .un .un) S4 := ⟨es, _, _, _, _, _, _, rfl, n6, hE, hl, by rw [Nat.add_zero]; exact List.length_filter_le _ _, fun _ => r⟩
  obtain ⟨o, q7, h7⟩ := for_mapg (G := Z.run T 19) (t := .nm 8) (b := law7b) (fun (j : Nat) => D.int (0 + (j : Int))) (List.range (ids.length + 1)) (fun p ρ S => LI (.fz (.ref 0)) st c ids ps k p.length ρ S) (fun _ _ => False) (fun d _ => d = .bl true) (fun n z => by cases z) hi h0 (fun p x q hq ρ S hP => by
    obtain ⟨e1, e2⟩ := range_split hq
    rw [e1]
    have := turn_ok (n := 16) I hk hP
    simpa using this)
  cases o with
  | nxt ρ S5 =>
    exfalso
    rcases h7 with h7 | h7
    · obtain ⟨es, _, _, _, _, _, _, _, _, _, _, h, _⟩ := h7
      simp at h
      omega
    · exact h7
  | cnt ρ S5 => exact (no_cnt q7).elim
  | brk ρ S5 => exact h7.elim
  | ret d S5 =>
    have h7 : d = .bl true := h7
    subst h7
    refine ⟨S5, ?_⟩
    have q7' : evS (Z.run T 19) law7 (F (.fz (.ref 0)) st ids es y4 ps z6 k .un .un .un .un) S4 = some (.ret (.bl true) S5) := q7
    simp -implicitDefEqProofs [q7', outR]
end K32

set_option Elab.async false
set_option linter.all false
set_option maxRecDepth 100000
set_option maxHeartbeats 4000000
namespace K32
open PySem PySem.Spec PyProof.Rows L2 Z
theorem ok : conf.ok = true := by decide +kernel
end K32

set_option Elab.async false
set_option linter.all false
set_option maxRecDepth 100000
set_option maxHeartbeats 0
namespace K32
open PySem PySem.Spec PyProof.Rows L2 Z
abbrev R : PySem.W.OpenRow := PySem.W.OpenLaw.row PySem.Challenge.rw_intentstore_k32_rings_and_victims
abbrev hk : PySem.W.Hook := hookZ 5 conf
def ob (s : PySem.W.SharedT) : He.AlD := obsZ 5 conf (HandSHeadRun.getT s)
theorem ob_eq (s : PySem.W.SharedT) : ob s = hk.obs s.abs := obsZ_eq (HandSHeadRun.getT_eq s)
def loose : List PySem.Str := [("__name__" : PySem.Str), ("reached" : PySem.Str), ("in_rings" : PySem.Str), ("victim" : PySem.Str), ("_law_state" : PySem.Str), ("_law_draw" : PySem.Str), ("_law_pick" : PySem.Str), ("_law_closure" : PySem.Str)]
theorem run (w : World) : HandSHeadRun.RunEq R (PySem.W.view R.prog [9]) hk ob 4000 loose w := by
  intro os
  kernel_rfl
end K32

set_option Elab.async false
set_option linter.all false
set_option maxRecDepth 100000
set_option maxHeartbeats 0
open PySem PySem.W PySem.Calls PyProof.Rows
theorem PySem.Challenge.cw_intentstore_k32_rings_and_victims_holds : PySem.Challenge.rw_intentstore_k32_rings_and_victims.Holds := by
  w_on
  o_law
  refine HandSHeadRun.head_any (r := OpenLaw.row PySem.Challenge.rw_intentstore_k32_rings_and_victims) (q := view (OpenLaw.row PySem.Challenge.rw_intentstore_k32_rings_and_victims).prog [9]) (H := K32.hk) (ob := K32.ob) (M := 4000) (loose := K32.loose) (d := HandSHeadRun.topDef (OpenLaw.row PySem.Challenge.rw_intentstore_k32_rings_and_victims).prog 9) (kwd := []) K32.ob_eq (by kernel_rfl) (fun s => by kernel_rfl) K32.run (by kernel_rfl) (by kernel_rfl) (by kernel_rfl) (by rfl) (by first | assumption | decide +kernel) (by decide +kernel) ⟨rfl, rfl, rfl, rfl, rfl, by decide +kernel⟩ ?hw ?hc
  case hw => w_witness2
  case hc => exact Z.law_z (l := PySem.Challenge.rw_intentstore_k32_rings_and_victims) (n := 63) (N := 20) (h := 5) K32.conf K32.ok rfl (by decide) (by kernel_rfl) (by kernel_rfl) ⟨rfl, by decide, by decide⟩ K32.ev
