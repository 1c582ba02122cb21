import PyProof.Rows.All
import Wide.All
import OpenK.AllK
import Wide.FinOn
import HandS.ForMost
import HandS.ForExc
import KE.KDictKeyed
import HandS.Walk
import KE.GoesMore
import HandS.Deep
import HandS.TupAny
import HandS.TupMul
import HandS.IsInst
import HandS.WideBits
import HandS.SetFor
import HandS.Style
import KE.DataCmp
import KE.SortData
import HandS.Strs
import PyProof.CollectIter
import PyProof.EqAt
import PyProof.EqKinds
import PyProof.TupleCall
import Open.SpecLaws
import KE.OsGo
import HandS.ForSpec
import KE.KExcInit
import HandS.SortInts
import HandS.Conv
import HandS.SetKeys
import HandS.SortKw
import HandS.DictComp
import HandS.TupLen
import HandS.DictTup
import HandS.WordsDict
import KE.KDictWalk
import KE.KDictZip
import PySem.Challenge.RW_turnedasks_k12_trees_by_hand_and_refused
set_option Elab.async false
set_option linter.all false
set_option maxRecDepth 100000
set_option maxHeartbeats 8000000
/-! Plain data, and how it lies in the heap. -/
namespace Pyp
open PySem L2
/-- the written part, the world -/
structure Kx where
  fr : PySem.W.Frag
  w : World
instance : Coe Kx PySem.W.Frag := ⟨Kx.fr⟩
abbrev kx (X : Cx) : Kx := ⟨X.K, X.w⟩

inductive D where
  | non | bl (b : Bool) | int (i : Int) | str (x : List Nat) | tup (ds : List D) | lst (ds : List D) | dic (ks vs : List D) | fz (ns : List Int)
  deriving Inhabited

/-- a value at hand: data | a list or dict just made | one that a local name alone holds, looked at | a cell that is handed on by name -/
inductive Val where
  | d (x : D) | own (x : D) | bor (x : D) | ref (n : Nat)
  deriving Inhabited

abbrev PH := List D
abbrev Env := List (Option Val)

inductive Res (α : Type) where
  | ok (a : α) (ph : PH) | exc (c : Str) (fs : List (Str × D)) (ph : PH) | bad

/-! ### data in the heap -/
def WrT (K : Kx) (a : Addr) (xs : List V) : Prop :=
  ∃ (o : Obj) (its : Array Value) (n : Nat), K.fr.lookup a = some o ∧ o.cls = .type "tuple" ∧ o.data = .seq its n ∧ its.size ≤ sizeLine ∧ Vals xs its.toList
def WrL (K : Kx) (a : Addr) (xs : List V) : Prop :=
  ∃ (o : Obj) (its : Array Value) (n : Nat), K.fr.lookup a = some o ∧ o.cls = .type "list" ∧ o.dict = none ∧ o.data = .seq its n ∧ its.size ≤ sizeLine ∧ Vals xs its.toList
/-- the law's input: a list that is only read -/
def FzAt (K : Kx) (M : Addr → Prop) (H : Hp) (a : Addr) (xs : List V) : Prop := (¬ M a ∧ Rd H a (.lst xs)) ∨ WrL K a xs
theorem FzAt.sq {K M H a xs} (h : FzAt K M H a xs) : SqL K H a xs := h.elim (fun h => .inl h.2) .inr
def TupAt (K : Kx) (M : Addr → Prop) (H : Hp) (a : Addr) (xs : List V) : Prop := (¬ M a ∧ Rd H a (.tup xs)) ∨ WrT K a xs
def LstAt (K : Kx) (M : Addr → Prop) (H : Hp) (a : Addr) (xs : List V) : Prop := ¬ M a ∧ H a = some (.lst xs)
theorem TupAt.sq {K M H a xs} (h : TupAt K M H a xs) : SqT K H a xs := h.elim (fun h => .inl h.2) .inr
theorem LstAt.sq {K M H a xs} (h : LstAt K M H a xs) : SqL K H a xs := SqL.of h.2

def keyOf : D → Option Key
  | .int i => some (.inl i)
  | .str x => some (.inr ⟨x.toArray⟩)
  | _ => none

mutual
/-- data as a key of a dict, up to == -/
def nk : D → Option NestedKey
  | .non => some .none
  | .bl b => some (.num (if b = true then 1 else 0))
  | .int i => some (.num i)
  | .str x => some (.text ⟨x.toArray⟩)
  | .tup ds => (nks ds).map .tup
  | _ => none
def nks : List D → Option (List NestedKey)
  | [] => some []
  | d :: ds => match nk d, nks ds with
    | some k, some ks => some (k :: ks)
    | _, _ => none
end
/-- a tuple as a key -/
def keyN (d : D) : Option NestedKey := match nk d with
  | some (.tup ks) => if (NestedKey.tup ks).depth ≤ 8 then some (.tup ks) else none
  | _ => none
def RelX (x : NestedKey × Addr × V) (y : NestedKey × Addr × Value) : Prop := x.1 = y.1 ∧ x.2.1 = y.2.1 ∧ RelV x.2.2 y.2.2
/-- a dict whose keys are tuples: the dict's own object; the keys' tuples are told beside it -/
def DicR (w : World) (a : Addr) (xs : List (NestedKey × Addr × V)) (o : Obj) (h : Heap) : Prop := xs.length ≤ sizeLine ∧ (a == sysModules) = false ∧ ∃ ys, Paired RelX xs ys ∧
  ∃ es ep, h.get? a = some o ∧ o.ExactDict ∧ o.data = .dict es ep ∧ es.toList = ys.map (fun y => (⟨y.1.hash w, .ref y.2.1, y.2.2⟩ : DictEntry)) ∧ (ys.map (·.1)).Nodup
def DicO (w : World) (a : Addr) (xs : List (NestedKey × Addr × V)) (o : Obj) : HO := .ext (DicR w a xs o)
def DO (w : World) (H : Hp) (a : Addr) (xs : List (NestedKey × Addr × V)) : Prop := ∃ o, H a = some (DicO w a xs o)
theorem DO.up {w : World} {H H' : Hp} {a : Addr} {xs : List (NestedKey × Addr × V)} (h : DO w H a xs) (k : ∀ o, H a = some o → H' a = some o) : DO w H' a xs := let ⟨o, e⟩ := h; ⟨o, k _ e⟩
theorem DO.ne {w : World} {H : Hp} {a p : Addr} {xs : List (NestedKey × Addr × V)} (h : DO w H a xs) (hp : H p = none) : a ≠ p := let ⟨_, e⟩ := h; ne_of_none e hp
mutual
def Rep (K : Kx) (M : Addr → Prop) (H : Hp) : D → V → Prop
  | .non, v => v = .non
  | .bl b, v => v = .bl b
  | .int i, v => v = .int i
  | .str x, v => v = .str ⟨x.toArray⟩
  | .fz ns, v => ∃ a, v = .ref a ∧ FzAt K M H a (ns.map V.int)
  | .tup ds, v => ∃ a xs, v = .ref a ∧ TupAt K M H a xs ∧ Reps K M H ds xs
  | .lst ds, v => ∃ a xs, v = .ref a ∧ LstAt K M H a xs ∧ Reps K M H ds xs
  | .dic ks vs, v => ∃ a, v = .ref a ∧ ¬ M a ∧ ((∃ kvs, H a = some (.dK kvs) ∧ ks.map keyOf = kvs.map (fun p => some p.1) ∧ Reps K M H vs (kvs.map (·.2))) ∨
      (∃ xs, ks ≠ [] ∧ DO K.w H a xs ∧ ks.map keyN = xs.map (fun x => some x.1) ∧ Reps K M H ks (xs.map fun x => V.ref x.2.1) ∧ Reps K M H vs (xs.map (·.2.2))))
def Reps (K : Kx) (M : Addr → Prop) (H : Hp) : List D → List V → Prop
  | [], xs => xs = []
  | d :: ds, xs => ∃ v vs, xs = v :: vs ∧ Rep K M H d v ∧ Reps K M H ds vs
end

/-- what is not written over stays -/
def KeepP (M : Addr → Prop) (H H' : Hp) : Prop := ∀ b o, H b = some o → ¬ M b → H' b = some o
theorem KeepP.rd {M : Addr → Prop} {H H' : Hp} {a : Addr} {u : HO} (k : KeepP M H H') (n : ¬ M a) (h : Rd H a u) : Rd H' a u :=
  h.elim (fun h => .inl (k a _ h n)) (fun ⟨o, h⟩ => .inr ⟨o, k a _ h n⟩)
theorem TupAt.keep {K M H H' a xs} (k : KeepP M H H') (h : TupAt K M H a xs) : TupAt K M H' a xs := h.elim (fun h => .inl ⟨h.1, k.rd h.1 h.2⟩) .inr
theorem FzAt.keep {K M H H' a xs} (k : KeepP M H H') (h : FzAt K M H a xs) : FzAt K M H' a xs := h.elim (fun h => .inl ⟨h.1, k.rd h.1 h.2⟩) .inr
theorem FzAt.anti {K H a xs} {M M' : Addr → Prop} (k : ∀ a, M' a → M a) (h : FzAt K M H a xs) : FzAt K M' H a xs := h.elim (fun h => .inl ⟨fun z => h.1 (k _ z), h.2⟩) .inr
theorem LstAt.keep {K M H H' a xs} (k : KeepP M H H') (h : LstAt K M H a xs) : LstAt K M H' a xs := ⟨h.1, k _ _ h.2 h.1⟩
theorem TupAt.anti {K H a xs} {M M' : Addr → Prop} (k : ∀ a, M' a → M a) (h : TupAt K M H a xs) : TupAt K M' H a xs := h.elim (fun h => .inl ⟨fun z => h.1 (k _ z), h.2⟩) .inr
theorem LstAt.anti {K H a xs} {M M' : Addr → Prop} (k : ∀ a, M' a → M a) (h : LstAt K M H a xs) : LstAt K M' H a xs := ⟨fun z => h.1 (k _ z), h.2⟩

mutual
theorem Rep.keep {K : Kx} {M : Addr → Prop} {H H' : Hp} (k : KeepP M H H') : ∀ (d : D) (v : V), Rep K M H d v → Rep K M H' d v
  | .non, v, h => by simpa [Rep] using h
  | .bl b, v, h => by simpa [Rep] using h
  | .int i, v, h => by simpa [Rep] using h
  | .str x, v, h => by simpa [Rep] using h
  | .fz ns, v, h => by
    rw [Rep] at h ⊢
    obtain ⟨a, e, t⟩ := h
    exact ⟨a, e, t.keep k⟩
  | .tup ds, v, h => by
    rw [Rep] at h ⊢
    obtain ⟨a, xs, e, t, r⟩ := h
    exact ⟨a, xs, e, t.keep k, Reps.keep k ds xs r⟩
  | .lst ds, v, h => by
    rw [Rep] at h ⊢
    obtain ⟨a, xs, e, t, r⟩ := h
    exact ⟨a, xs, e, t.keep k, Reps.keep k ds xs r⟩
  | .dic ks vs, v, h => by
    rw [Rep] at h ⊢
    obtain ⟨a, e, n, h⟩ := h
    rcases h with ⟨kvs, t, q, r⟩ | ⟨xs, z, t, q, r1, r2⟩
    · exact ⟨a, e, n, .inl ⟨kvs, k _ _ t n, q, Reps.keep k vs _ r⟩⟩
    · exact ⟨a, e, n, .inr ⟨xs, z, t.up fun _ t => k _ _ t n, q, Reps.keep k ks _ r1, Reps.keep k vs _ r2⟩⟩
theorem Reps.keep {K : Kx} {M : Addr → Prop} {H H' : Hp} (k : KeepP M H H') : ∀ (ds : List D) (xs : List V), Reps K M H ds xs → Reps K M H' ds xs
  | [], xs, h => by simpa [Reps] using h
  | d :: ds, xs, h => by
    rw [Reps] at h ⊢
    obtain ⟨v, vs, e, r, rs⟩ := h
    exact ⟨v, vs, e, Rep.keep k d v r, Reps.keep k ds vs rs⟩
end
mutual
theorem Rep.anti {K : Kx} {M M' : Addr → Prop} {H : Hp} (k : ∀ a, M' a → M a) : ∀ (d : D) (v : V), Rep K M H d v → Rep K M' H d v
  | .non, v, h => by simpa [Rep] using h
  | .bl b, v, h => by simpa [Rep] using h
  | .int i, v, h => by simpa [Rep] using h
  | .str x, v, h => by simpa [Rep] using h
  | .fz ns, v, h => by
    rw [Rep] at h ⊢
    obtain ⟨a, e, t⟩ := h
    exact ⟨a, e, t.anti k⟩
  | .tup ds, v, h => by
    rw [Rep] at h ⊢
    obtain ⟨a, xs, e, t, r⟩ := h
    exact ⟨a, xs, e, t.anti k, Reps.anti k ds xs r⟩
  | .lst ds, v, h => by
    rw [Rep] at h ⊢
    obtain ⟨a, xs, e, t, r⟩ := h
    exact ⟨a, xs, e, t.anti k, Reps.anti k ds xs r⟩
  | .dic ks vs, v, h => by
    rw [Rep] at h ⊢
    obtain ⟨a, e, n, h⟩ := h
    rcases h with ⟨kvs, t, q, r⟩ | ⟨xs, z, t, q, r1, r2⟩
    · exact ⟨a, e, fun z => n (k _ z), .inl ⟨kvs, t, q, Reps.anti k vs _ r⟩⟩
    · exact ⟨a, e, fun z => n (k _ z), .inr ⟨xs, z, t, q, Reps.anti k ks _ r1, Reps.anti k vs _ r2⟩⟩
theorem Reps.anti {K : Kx} {M M' : Addr → Prop} {H : Hp} (k : ∀ a, M' a → M a) : ∀ (ds : List D) (xs : List V), Reps K M H ds xs → Reps K M' H ds xs
  | [], xs, h => by simpa [Reps] using h
  | d :: ds, xs, h => by
    rw [Reps] at h ⊢
    obtain ⟨v, vs, e, r, rs⟩ := h
    exact ⟨v, vs, e, Rep.anti k d v r, Reps.anti k ds vs rs⟩
end
theorem rd_ne {H : Hp} {a p : Addr} {u : HO} (h : Rd H a u) (hp : H p = none) : a ≠ p := fun e => by
  subst e
  rcases h with h | ⟨o, h⟩ <;> (rw [hp] at h; cases h)
/-- one address more that may be written -/
def MAdd (M : Addr → Prop) (p : Addr) : Addr → Prop := fun a => M a ∨ a = p
theorem TupAt.fresh {K M H a xs} {p : Addr} (hp : H p = none) (h : TupAt K M H a xs) : TupAt K (MAdd M p) H a xs := h.elim (fun h => .inl ⟨fun z => z.elim h.1 (rd_ne h.2 hp), h.2⟩) .inr
theorem FzAt.fresh {K M H a xs} {p : Addr} (hp : H p = none) (h : FzAt K M H a xs) : FzAt K (MAdd M p) H a xs := h.elim (fun h => .inl ⟨fun z => z.elim h.1 (rd_ne h.2 hp), h.2⟩) .inr
theorem LstAt.fresh {K M H a xs} {p : Addr} (hp : H p = none) (h : LstAt K M H a xs) : LstAt K (MAdd M p) H a xs := ⟨fun z => z.elim h.1 (ne_of_none h.2 hp), h.2⟩
mutual
theorem Rep.fresh {K : Kx} {M : Addr → Prop} {H : Hp} {p : Addr} (hp : H p = none) : ∀ (d : D) (v : V), Rep K M H d v → Rep K (MAdd M p) H d v
  | .non, v, h => by simpa [Rep] using h
  | .bl b, v, h => by simpa [Rep] using h
  | .int i, v, h => by simpa [Rep] using h
  | .str x, v, h => by simpa [Rep] using h
  | .fz ns, v, h => by
    rw [Rep] at h ⊢
    obtain ⟨a, e, t⟩ := h
    exact ⟨a, e, t.fresh hp⟩
  | .tup ds, v, h => by
    rw [Rep] at h ⊢
    obtain ⟨a, xs, e, t, r⟩ := h
    exact ⟨a, xs, e, t.fresh hp, Reps.fresh hp ds xs r⟩
  | .lst ds, v, h => by
    rw [Rep] at h ⊢
    obtain ⟨a, xs, e, t, r⟩ := h
    exact ⟨a, xs, e, t.fresh hp, Reps.fresh hp ds xs r⟩
  | .dic ks vs, v, h => by
    rw [Rep] at h ⊢
    obtain ⟨a, e, n, h⟩ := h
    rcases h with ⟨kvs, t, q, r⟩ | ⟨xs, z, t, q, r1, r2⟩
    · exact ⟨a, e, fun z => z.elim n (ne_of_none t hp), .inl ⟨kvs, t, q, Reps.fresh hp vs _ r⟩⟩
    · exact ⟨a, e, fun z => z.elim n (t.ne hp), .inr ⟨xs, z, t, q, Reps.fresh hp ks _ r1, Reps.fresh hp vs _ r2⟩⟩
theorem Reps.fresh {K : Kx} {M : Addr → Prop} {H : Hp} {p : Addr} (hp : H p = none) : ∀ (ds : List D) (xs : List V), Reps K M H ds xs → Reps K (MAdd M p) H ds xs
  | [], xs, h => by simpa [Reps] using h
  | d :: ds, xs, h => by
    rw [Reps] at h ⊢
    obtain ⟨v, vs, e, r, rs⟩ := h
    exact ⟨v, vs, e, Rep.fresh hp d v r, Reps.fresh hp ds vs rs⟩
end
theorem Reps.length {K : Kx} {M : Addr → Prop} {H : Hp} : ∀ {ds : List D} {xs : List V}, Reps K M H ds xs → xs.length = ds.length
  | [], xs, h => by rw [Reps] at h; subst h; rfl
  | d :: ds, xs, h => by
    rw [Reps] at h
    obtain ⟨v, vs, rfl, _, rs⟩ := h
    simp [Reps.length rs]
theorem Reps.nil {K : Kx} {M : Addr → Prop} {H : Hp} : Reps K M H [] [] := by rw [Reps]
theorem Reps.cons {K : Kx} {M : Addr → Prop} {H : Hp} {d : D} {ds : List D} {v : V} {vs : List V} (h : Rep K M H d v) (t : Reps K M H ds vs) : Reps K M H (d :: ds) (v :: vs) := by
  rw [Reps]; exact ⟨v, vs, rfl, h, t⟩
theorem Reps.append {K : Kx} {M : Addr → Prop} {H : Hp} : ∀ {ds es : List D} {xs ys : List V}, Reps K M H ds xs → Reps K M H es ys → Reps K M H (ds ++ es) (xs ++ ys)
  | [], es, xs, ys, h, t => by rw [Reps] at h; subst h; exact t
  | d :: ds, es, xs, ys, h, t => by
    rw [Reps] at h
    obtain ⟨v, vs, rfl, r, rs⟩ := h
    exact .cons r (Reps.append rs t)
theorem Reps.get {K : Kx} {M : Addr → Prop} {H : Hp} : ∀ {ds : List D} {xs : List V} {i : Nat} {d : D}, Reps K M H ds xs → ds[i]? = some d → ∃ v, xs[i]? = some v ∧ Rep K M H d v
  | [], xs, i, d, h, e => by simp at e
  | d :: ds, xs, 0, d', h, e => by
    rw [Reps] at h
    obtain ⟨v, vs, rfl, r, rs⟩ := h
    simp at e; subst e
    exact ⟨v, rfl, r⟩
  | d :: ds, xs, i + 1, d', h, e => by
    rw [Reps] at h
    obtain ⟨v, vs, rfl, r, rs⟩ := h
    obtain ⟨u, h1, h2⟩ := Reps.get (i := i) rs (by simpa using e)
    exact ⟨u, by simpa using h1, h2⟩
theorem Reps.get' {K : Kx} {M : Addr → Prop} {H : Hp} {ds : List D} {xs : List V} {i : Nat} {v : V} (h : Reps K M H ds xs) (e : xs[i]? = some v) : ∃ d, ds[i]? = some d ∧ Rep K M H d v := by
  have hl := h.length
  have hi := (List.getElem?_eq_some_iff.mp e).1
  have hd : ds[i]? = some ds[i] := List.getElem?_eq_getElem (by omega)
  obtain ⟨u, h1, h2⟩ := h.get hd
  rw [e] at h1; cases h1
  exact ⟨_, hd, h2⟩
theorem Reps.take {K : Kx} {M : Addr → Prop} {H : Hp} : ∀ {ds : List D} {xs : List V} (n : Nat), Reps K M H ds xs → Reps K M H (ds.take n) (xs.take n)
  | ds, xs, 0, h => by simpa using Reps.nil
  | [], xs, n + 1, h => by rw [Reps] at h; subst h; simpa using Reps.nil
  | d :: ds, xs, n + 1, h => by
    rw [Reps] at h
    obtain ⟨v, vs, rfl, r, rs⟩ := h
    exact .cons r (rs.take n)
theorem Reps.drop {K : Kx} {M : Addr → Prop} {H : Hp} : ∀ {ds : List D} {xs : List V} (n : Nat), Reps K M H ds xs → Reps K M H (ds.drop n) (xs.drop n)
  | ds, xs, 0, h => h
  | [], xs, n + 1, h => by rw [Reps] at h; subst h; simpa using Reps.nil
  | d :: ds, xs, n + 1, h => by
    rw [Reps] at h
    obtain ⟨v, vs, rfl, r, rs⟩ := h
    exact rs.drop n
theorem Reps.set {K : Kx} {M : Addr → Prop} {H : Hp} {d : D} {v : V} (r : Rep K M H d v) : ∀ {ds : List D} {xs : List V} (n : Nat), Reps K M H ds xs → Reps K M H (ds.set n d) (xs.set n v)
  | [], xs, n, h => by rw [Reps] at h; subst h; simpa using Reps.nil
  | e :: ds, xs, 0, h => by
    rw [Reps] at h
    obtain ⟨w, vs, rfl, q, rs⟩ := h
    exact .cons r rs
  | e :: ds, xs, n + 1, h => by
    rw [Reps] at h
    obtain ⟨w, vs, rfl, q, rs⟩ := h
    exact .cons q (rs.set r n)

/-! ### what is mutable -/
def DicC (K : Kx) (M : Addr → Prop) (H : Hp) (a : Addr) (ks vs : List D) : Prop := (∃ kvs, H a = some (.dK kvs) ∧ ks.map keyOf = kvs.map (fun p => some p.1) ∧ Reps K M H vs (kvs.map (·.2))) ∨
  (∃ xs, ks ≠ [] ∧ DO K.w H a xs ∧ ks.map keyN = xs.map (fun x => some x.1) ∧ Reps K M H ks (xs.map fun x => V.ref x.2.1) ∧ Reps K M H vs (xs.map (·.2.2)))
theorem DicC.there {K M H a ks vs} (h : DicC K M H a ks vs) : ∃ o, H a = some o := h.elim (fun ⟨_, e, _⟩ => ⟨_, e⟩) (fun ⟨_, _, ⟨_, e⟩, _⟩ => ⟨_, e⟩)
theorem DicC.mono {K M M' H H' a ks vs} (h : DicC K M H a ks vs) (ka : ∀ o, H a = some o → H' a = some o) (kr : ∀ ds xs, Reps K M H ds xs → Reps K M' H' ds xs) : DicC K M' H' a ks vs :=
  h.elim (fun ⟨kvs, e, q, r⟩ => .inl ⟨kvs, ka _ e, q, kr _ _ r⟩) (fun ⟨xs, z, e, q, r1, r2⟩ => .inr ⟨xs, z, e.up ka, q, kr _ _ r1, kr _ _ r2⟩)
def Cont (K : Kx) (M : Addr → Prop) (H : Hp) (a : Addr) : D → Prop
  | .lst ds => ∃ xs, H a = some (.lst xs) ∧ Reps K M H ds xs
  | .dic ks vs => DicC K M H a ks vs
  | _ => False
/-- content as it may be read just now -/
def CR (K : Kx) (M : Addr → Prop) (H : Hp) : D → V → Prop
  | .lst ds, v => ∃ a xs, v = .ref a ∧ H a = some (.lst xs) ∧ Reps K M H ds xs
  | .dic ks vs, v => ∃ a, v = .ref a ∧ DicC K M H a ks vs
  | d, v => Rep K M H d v
theorem Rep.cr {K : Kx} {M : Addr → Prop} {H : Hp} : ∀ {d : D} {v : V}, Rep K M H d v → CR K M H d v
  | .non, v, h => h
  | .bl b, v, h => h
  | .int i, v, h => h
  | .str x, v, h => h
  | .fz ns, v, h => h
  | .tup ds, v, h => h
  | .lst ds, v, h => by
    rw [Rep] at h
    obtain ⟨a, xs, e, t, r⟩ := h
    exact ⟨a, xs, e, t.2, r⟩
  | .dic ks vs, v, h => by
    rw [Rep] at h
    obtain ⟨a, e, n, h⟩ := h
    exact ⟨a, e, h⟩
theorem Cont.cr {K : Kx} {M : Addr → Prop} {H : Hp} {a : Addr} : ∀ {d : D}, Cont K M H a d → CR K M H d (.ref a)
  | .non, h => h.elim
  | .bl b, h => h.elim
  | .int i, h => h.elim
  | .str x, h => h.elim
  | .fz x, h => h.elim
  | .tup ds, h => h.elim
  | .lst ds, h => by
    obtain ⟨xs, e, r⟩ := h
    exact ⟨a, xs, rfl, e, r⟩
  | .dic ks vs, h => ⟨a, rfl, h⟩
theorem Cont.keep {K : Kx} {M : Addr → Prop} {H H' : Hp} {a : Addr} (k : KeepP M H H') (ka : ∀ o, H a = some o → H' a = some o) : ∀ {d : D}, Cont K M H a d → Cont K M H' a d
  | .non, h => h.elim
  | .bl b, h => h.elim
  | .int i, h => h.elim
  | .str x, h => h.elim
  | .fz x, h => h.elim
  | .tup ds, h => h.elim
  | .lst ds, h => by
    obtain ⟨xs, e, r⟩ := h
    exact ⟨xs, ka _ e, Reps.keep k _ _ r⟩
  | .dic ks vs, h => DicC.mono h ka fun _ _ r => Reps.keep k _ _ r
theorem Cont.anti {K : Kx} {M M' : Addr → Prop} {H : Hp} {a : Addr} (k : ∀ a, M' a → M a) : ∀ {d : D}, Cont K M H a d → Cont K M' H a d
  | .non, h => h.elim
  | .bl b, h => h.elim
  | .int i, h => h.elim
  | .str x, h => h.elim
  | .fz x, h => h.elim
  | .tup ds, h => h.elim
  | .lst ds, h => by
    obtain ⟨xs, e, r⟩ := h
    exact ⟨xs, e, Reps.anti k _ _ r⟩
  | .dic ks vs, h => DicC.mono h (fun _ z => z) fun _ _ r => Reps.anti k _ _ r
theorem Cont.fresh {K : Kx} {M : Addr → Prop} {H : Hp} {a p : Addr} (hp : H p = none) : ∀ {d : D}, Cont K M H a d → Cont K (MAdd M p) H a d
  | .non, h => h.elim
  | .bl b, h => h.elim
  | .int i, h => h.elim
  | .str x, h => h.elim
  | .fz x, h => h.elim
  | .tup ds, h => h.elim
  | .lst ds, h => by
    obtain ⟨xs, e, r⟩ := h
    exact ⟨xs, e, Reps.fresh hp _ _ r⟩
  | .dic ks vs, h => DicC.mono h (fun _ z => z) fun _ _ r => Reps.fresh hp _ _ r
theorem Cont.some {K : Kx} {M : Addr → Prop} {H : Hp} {a : Addr} : ∀ {d : D}, Cont K M H a d → ∃ o, H a = some o
  | .non, h => h.elim
  | .bl b, h => h.elim
  | .int i, h => h.elim
  | .str x, h => h.elim
  | .fz x, h => h.elim
  | .tup ds, h => h.elim
  | .lst ds, h => let ⟨_, e, _⟩ := h; ⟨_, e⟩
  | .dic ks vs, h => DicC.there h
/-- a made list or dict that nobody will write any more is data -/
theorem Cont.rep {K : Kx} {M : Addr → Prop} {H : Hp} {a : Addr} (n : ¬ M a) : ∀ {d : D}, Cont K M H a d → Rep K M H d (.ref a)
  | .non, h => h.elim
  | .bl b, h => h.elim
  | .int i, h => h.elim
  | .str x, h => h.elim
  | .fz x, h => h.elim
  | .tup ds, h => h.elim
  | .lst ds, h => by
    obtain ⟨xs, e, r⟩ := h
    rw [Rep]
    exact ⟨a, xs, rfl, ⟨n, e⟩, r⟩
  | .dic ks vs, h => by
    rw [Rep]
    exact ⟨a, rfl, n, h⟩

/-! ### the world of a def: cells at m, M: what is not to be shared -/
structure Rel (K : Kx) (M : Addr → Prop) (m : List Addr) (H : Hp) (ph : PH) : Prop where
  len : m.length = ph.length
  nd : m.Nodup
  sub : ∀ a ∈ m, M a
  dom : ∀ a, M a → ∃ o, H a = some o
  cont : ∀ (n : Nat) (a : Addr) (d : D), m[n]? = some a → ph[n]? = some d → Cont K M H a d
def Frame (m : List Addr) (H H' : Hp) : Prop := ∀ a o, H a = some o → a ∉ m → H' a = some o
theorem Frame.refl {m : List Addr} {H : Hp} : Frame m H H := fun _ _ h _ => h
theorem Frame.trans {m : List Addr} {H H1 H2 : Hp} (f : Frame m H H1) (g : Frame m H1 H2) : Frame m H H2 := fun a o h n => g a o (f a o h n) n
theorem Frame.keep {K M m H ph} {H0 H' : Hp} (f : Frame m H0 H') (r : Rel K M m H ph) : KeepP M H0 H' := fun b o h n => f b o h fun z => n (r.sub b z)
theorem Frame.back {K M m H H' ph} (f : Frame m H H') (r : Rel K M m H' ph) {p : Addr} (h : H' p = none) : H p = none := by
  cases q : H p with
  | none => rfl
  | some o =>
    by_cases hm : p ∈ m
    · obtain ⟨u, e⟩ := r.dom p (r.sub p hm)
      rw [h] at e; cases e
    · rw [f p o q hm] at h; cases h
theorem Frame.new {m : List Addr} {H : Hp} {p : Addr} {o : HO} (h : H p = none) : Frame m H (upd H p o) := fun a u e _ => by
  rw [upd_ne (ne_of_none e h)]; exact e
theorem keep_new {M : Addr → Prop} {H : Hp} {p : Addr} {o : HO} (h : H p = none) : KeepP M H (upd H p o) := fun a u e _ => by
  rw [upd_ne (ne_of_none e h)]; exact e
theorem Rel.new {K M m H ph} {p : Addr} {o : HO} (r : Rel K M m H ph) (h : H p = none) : Rel K M m (upd H p o) ph where
  len := r.len
  nd := r.nd
  sub := r.sub
  dom := fun a z => by
    obtain ⟨u, e⟩ := r.dom a z
    exact ⟨u, by rw [upd_ne (ne_of_none e h)]; exact e⟩
  cont := fun n a d e1 e2 => (r.cont n a d e1 e2).keep (keep_new h) fun u e => by rw [upd_ne (ne_of_none e h)]; exact e
theorem Rel.notM {K M m H ph} {p : Addr} (r : Rel K M m H ph) (h : H p = none) : ¬ M p := fun z => by
  obtain ⟨o, e⟩ := r.dom p z
  rw [h] at e; cases e

/-- a value at hand; H0: the heap when its making began -/
def RV (K : Kx) (M : Addr → Prop) (m : List Addr) (H0 H : Hp) (v : V) : Val → Prop
  | .d x => Rep K M H x v
  | .own x => ∃ a, v = .ref a ∧ H0 a = none ∧ ¬ M a ∧ Cont K M H a x
  | .bor x => ∃ a, v = .ref a ∧ M a ∧ a ∉ m ∧ Cont K M H a x
  | .ref n => ∃ a, m[n]? = some a ∧ v = .ref a
theorem RV.keep {K M m H0 H H' ph v} (r : Rel K M m H ph) (f : Frame m H H') : ∀ {x : Val}, RV K M m H0 H v x → RV K M m H0 H' v x
  | .d x, h => Rep.keep (f.keep r) x v h
  | .own x, ⟨a, e, n, nm, c⟩ => ⟨a, e, n, nm, c.keep (f.keep r) fun o z => f a o z fun q => nm (r.sub a q)⟩
  | .bor x, ⟨a, e, n, nm, c⟩ => ⟨a, e, n, nm, c.keep (f.keep r) fun o z => f a o z nm⟩
  | .ref n, h => h
theorem RV.base {K M m H0 H1 H v} (f : ∀ p, H1 p = none → H0 p = none) : ∀ {x : Val}, RV K M m H1 H v x → RV K M m H0 H v x
  | .d x, h => h
  | .own x, ⟨a, e, n, nm, c⟩ => ⟨a, e, f a n, nm, c⟩
  | .bor x, h => h
  | .ref n, h => h

def Val.cont (ph : PH) : Val → Option D
  | .d x => some x
  | .own x => some x
  | .bor x => some x
  | .ref n => ph[n]?
/-- what may be kept -/
def Val.dat : Val → Option D
  | .d x => some x
  | .own x => some x
  | _ => none
theorem RV.cr {K M m H0 H ph v d} (r : Rel K M m H ph) : ∀ {x : Val}, RV K M m H0 H v x → x.cont ph = some d → CR K M H d v
  | .d x, h, e => by cases e; exact Rep.cr h
  | .own x, ⟨a, e1, n, nm, c⟩, e => by cases e; subst e1; exact c.cr
  | .bor x, ⟨a, e1, n, nm, c⟩, e => by cases e; subst e1; exact c.cr
  | .ref n, ⟨a, e1, e2⟩, e => by subst e2; exact (r.cont n a d e1 e).cr
theorem RV.dat {K M m H0 H v d} : ∀ {x : Val}, RV K M m H0 H v x → x.dat = some d → Rep K M H d v
  | .d x, h, e => by cases e; exact h
  | .own x, ⟨a, e1, n, nm, c⟩, e => by cases e; subst e1; exact c.rep nm
  | .bor x, h, e => by cases e
  | .ref n, h, e => by cases e

/-- the slots -/
def SlotR (K : Kx) (M : Addr → Prop) (m : List Addr) (H : Hp) (v : V) : Val → Prop
  | .d x => Rep K M H x v
  | .own x => ∃ a, v = .ref a ∧ M a ∧ a ∉ m ∧ Cont K M H a x
  | .bor _ => False
  | .ref n => ∃ a, m[n]? = some a ∧ v = .ref a
def EnvR (K : Kx) (M : Addr → Prop) (m : List Addr) (σ : L2.St) (H : Hp) (env : Env) : Prop :=
  env.length = σ.length ∧ ∀ (i : Nat) (x : Val), env[i]? = some (some x) → ∃ v, σ[i]? = some (some v) ∧ SlotR K M m H v x
theorem SlotR.keep {K M m H H' ph v} (r : Rel K M m H ph) (f : Frame m H H') : ∀ {x : Val}, SlotR K M m H v x → SlotR K M m H' v x
  | .d x, h => Rep.keep (f.keep r) x v h
  | .own x, ⟨a, e, n, nm, c⟩ => ⟨a, e, n, nm, c.keep (f.keep r) fun o z => f a o z nm⟩
  | .bor x, h => h
  | .ref n, h => h
theorem EnvR.keep {K M m σ H H' ph env} (r : Rel K M m H ph) (f : Frame m H H') (e : EnvR K M m σ H env) : EnvR K M m σ H' env := ⟨e.1, fun i x h => by
  obtain ⟨v, h1, h2⟩ := e.2 i x h
  exact ⟨v, h1, h2.keep r f⟩⟩
def Val.read : Val → Val
  | .own x => .bor x
  | v => v
theorem SlotR.rv {K M m H0 H v} : ∀ {x : Val}, SlotR K M m H v x → RV K M m H0 H v x.read
  | .d x, h => h
  | .own x, h => h
  | .bor x, h => h.elim
  | .ref n, h => h

/-- a list just made is nobody else's -/
def RO (K : Kx) (M : Addr → Prop) (m : List Addr) (H : Hp) (ph : PH) (v : V) (x : Val) : Prop := ∀ d, x = .own d → ∀ a, v = .ref a → Rel K (MAdd M a) m H ph ∧ Cont K (MAdd M a) H a d
theorem RO.d {K M m H ph v x} : RO K M m H ph v (.d x) := fun _ e => nomatch e
theorem RO.bor {K M m H ph v x} : RO K M m H ph v (.bor x) := fun _ e => nomatch e
theorem RO.ref {K M m H ph v n} : RO K M m H ph v (.ref n) := fun _ e => nomatch e
theorem RO.read {K M m H ph v} : ∀ {x : Val}, RO K M m H ph v x.read
  | .d _ => RO.d
  | .own _ => RO.bor
  | .bor _ => RO.bor
  | .ref _ => RO.ref
theorem EnvR.newM {K M m σ H env} {p : Addr} {o : HO} (e : EnvR K M m σ H env) (h : H p = none) : EnvR K (MAdd M p) m σ (upd H p o) env := ⟨e.1, fun i x ex => by
  obtain ⟨v, h1, h2⟩ := e.2 i x ex
  refine ⟨v, h1, ?_⟩
  cases x with
  | d x => exact Rep.keep (keep_new h) _ _ (Rep.fresh h _ _ h2)
  | own x =>
    obtain ⟨a, q1, q2, q3, q4⟩ := h2
    exact ⟨a, q1, .inl q2, q3, (q4.fresh h).keep (keep_new h) fun u z => by rw [upd_ne (ne_of_none z h)]; exact z⟩
  | bor x => exact h2.elim
  | ref n => exact h2⟩
theorem Rel.newM {K M m H ph} {p : Addr} {o : HO} (r : Rel K M m H ph) (h : H p = none) : Rel K (MAdd M p) m (upd H p o) ph where
  len := r.len
  nd := r.nd
  sub := fun a z => .inl (r.sub a z)
  dom := fun a z => by
    by_cases e : a = p
    · subst e; exact ⟨o, upd_same⟩
    · obtain ⟨u, q⟩ := r.dom a (z.resolve_right e)
      exact ⟨u, by rw [upd_ne e]; exact q⟩
  cont := fun n a d e1 e2 => ((r.cont n a d e1 e2).fresh h).keep (keep_new h) fun u e => by rw [upd_ne (ne_of_none e h)]; exact e

/-- an exception: its class by name, its fields -/
def ExR (mg : Str → Option Value) (K : Kx) (M : Addr → Prop) (H : Hp) (c : Str) (fs : List (Str × D)) (cls : Value) (d : Option Addr) : Prop :=
  ∃ C, mg c = some (.ref C) ∧ cls = .ref C ∧ match fs with
    | [] => d = none
    | (f, x) :: _ => ∃ dd v, d = some dd ∧ H dd = some (.xd [(f, v)]) ∧ Rep K M H x v
end Pyp

/-! The judgements: a piece of Python and the plain function that it does. -/
namespace Pyp
open PySem L2

abbrev Ex := Env → PH → Res Val
abbrev Tx := Env → PH → Res Bool
abbrev Ax := Env → PH → Res (List Val)

def Res.bind {α β : Type} (r : Res α) (f : α → PH → Res β) : Res β := match r with
  | .ok a ph => f a ph
  | .exc c fs ph => .exc c fs ph
  | .bad => .bad
@[simp] theorem Res.bind_ok {α β : Type} (a : α) (ph : PH) (f : α → PH → Res β) : (Res.ok a ph).bind f = f a ph := rfl
@[simp] theorem Res.bind_exc {α β : Type} (c : Str) (fs : List (Str × D)) (ph : PH) (f : α → PH → Res β) : (Res.exc c fs ph : Res α).bind f = .exc c fs ph := rfl
@[simp] theorem Res.bind_bad {α β : Type} (f : α → PH → Res β) : (Res.bad : Res α).bind f = .bad := rfl
/-- an answer, or stuck -/
def Res.of {α : Type} (o : Option α) (ph : PH) : Res α := match o with
  | some a => .ok a ph
  | none => .bad
@[simp] theorem Res.of_some {α : Type} (a : α) (ph : PH) : Res.of (some a) ph = .ok a ph := rfl
@[simp] theorem Res.of_none {α : Type} (ph : PH) : Res.of (none : Option α) ph = .bad := rfl

section
variable (X : Cx)
def tW (e : Expr) : TE := fun σ H Q => ∀ pins s, Inv X pins σ H s → wpAny (model X.prog X.w) X.A (eval e X.env) (EP X pins σ Q) X.xe s
def tWT (e : Expr) : TT := fun σ H Q => ∀ pins s, Inv X pins σ H s → wpAny (model X.prog X.w) X.A (isTrue e X.env (eval e X.env)) (TP X pins σ Q) X.xe s
def tWA (es : List Expr) : TA := fun σ H Q => ∀ (pos : Pos) pins s, Inv X pins σ H s → wpAny (model X.prog X.w) X.A (spliced (backTo pos (starEach es X.env))) (AP X pins σ Q) X.xe s
def rW (F : Value → Value → Sem Value) : R2 := fun x y H Q => ∀ pins s σ u v, Inv X pins σ H s → RelV x u → RelV y v → wpAny (model X.prog X.w) X.A (F u v) (EP X pins σ Q) X.xe s
end
variable {X : Cx}
theorem tW_pe {e : Expr} : PE X e (tW X e) := ⟨fun pins s σ H Q I h => h pins s I⟩
theorem tW_of {e : Expr} {t : TE} {σ : L2.St} {H : Hp} {Q : VK} (h : PE X e t) (q : t σ H Q) : tW X e σ H Q := fun pins s I => h.run pins s σ H Q I q
theorem tWT_pt {e : Expr} : PT X e (tWT X e) := ⟨fun pins s σ H Q I h => h pins s I⟩
theorem tWT_of {e : Expr} {t : TT} {σ : L2.St} {H : Hp} {Q : Bool → Hp → Prop} (h : PT X e t) (q : t σ H Q) : tWT X e σ H Q := fun pins s I => h.run pins s σ H Q I q
theorem tWA_pa {es : List Expr} : PA X es (tWA X es) := ⟨fun pos pins s σ H Q I h => h pos pins s I⟩
theorem tWA_of {es : List Expr} {t : TA} {σ : L2.St} {H : Hp} {Q : List V → Hp → Prop} (h : PA X es t) (q : t σ H Q) : tWA X es σ H Q := fun pos pins s I => h.run pos pins s σ H Q I q
theorem rW_op {F : Value → Value → Sem Value} : OpR X F (rW X F) := fun pins s σ H x y u v Q I r1 r2 h => h pins s σ u v I r1 r2

/-- what an end asks: G of an answer, the wish W of an exception -/
def Post (X : Cx) (W : WX) (M : Addr → Prop) (m : List Addr) (σ : L2.St) (H : Hp) {α : Type} (G : α → PH → Prop) : Res α → Prop
  | .ok a ph => G a ph
  | .exc c fs ph => ∀ cls d H', Frame m H H' → Rel (kx X) M m H' ph → ExR X.mg (kx X) M H' c fs cls d → W cls d σ H'
  | .bad => False
theorem Post.step {W : WX} {M : Addr → Prop} {m : List Addr} {σ : L2.St} {H H1 : Hp} {α : Type} {G : α → PH → Prop} (f : Frame m H H1) : ∀ {r : Res α}, Post X W M m σ H G r → Post X W M m σ H1 G r
  | .ok _ _, h => h
  | .exc _ _ _, h => fun cls d H' f' r e => h cls d H' (f.trans f') r e
  | .bad, h => h
theorem Post.mono {W : WX} {M : Addr → Prop} {m : List Addr} {σ : L2.St} {H : Hp} {α : Type} {G G' : α → PH → Prop} (k : ∀ a ph, G a ph → G' a ph) : ∀ {r : Res α}, Post X W M m σ H G r → Post X W M m σ H G' r
  | .ok _ _, h => k _ _ h
  | .exc _ _ _, h => h
  | .bad, h => h
def GE (X : Cx) (M : Addr → Prop) (m : List Addr) (H : Hp) (Q : VK) : Val → PH → Prop := fun x ph => ∀ v H', Frame m H H' → Rel (kx X) M m H' ph → RV (kx X) M m H H' v x → RO (kx X) M m H' ph v x → Q v H'
def GT (X : Cx) (M : Addr → Prop) (m : List Addr) (H : Hp) (Q : Bool → Hp → Prop) : Bool → PH → Prop := fun x ph => ∀ H', Frame m H H' → Rel (kx X) M m H' ph → Q x H'
def RVs (K : Kx) (M : Addr → Prop) (m : List Addr) (H0 H : Hp) : List V → List Val → Prop
  | vs, [] => vs = []
  | vs, x :: xs => ∃ w ws, vs = w :: ws ∧ RV K M m H0 H w x ∧ RVs K M m H0 H ws xs
theorem RVs.keep {K M m H0 H H' ph} (r : Rel K M m H ph) (f : Frame m H H') : ∀ {xs : List Val} {vs : List V}, RVs K M m H0 H vs xs → RVs K M m H0 H' vs xs
  | [], vs, h => h
  | x :: xs, vs, ⟨w, ws, e, h1, h2⟩ => ⟨w, ws, e, h1.keep r f, RVs.keep r f h2⟩
theorem RVs.base {K M m H0 H1 H} (f : ∀ p, H1 p = none → H0 p = none) : ∀ {xs : List Val} {vs : List V}, RVs K M m H1 H vs xs → RVs K M m H0 H vs xs
  | [], vs, h => h
  | x :: xs, vs, ⟨w, ws, e, h1, h2⟩ => ⟨w, ws, e, RV.base f h1, RVs.base f h2⟩
theorem RVs.length {K M m H0 H} : ∀ {xs : List Val} {vs : List V}, RVs K M m H0 H vs xs → vs.length = xs.length
  | [], vs, h => by subst h; rfl
  | x :: xs, vs, ⟨w, ws, e, h1, h2⟩ => by subst e; simp [RVs.length h2]
def dats : List Val → Option (List D)
  | [] => some []
  | x :: xs => match x.dat, dats xs with
    | some d, some ds => some (d :: ds)
    | _, _ => none
theorem RVs.dats {K M m H0 H} : ∀ {xs : List Val} {vs : List V} {ds : List D}, RVs K M m H0 H vs xs → dats xs = some ds → Reps K M H ds vs
  | [], vs, ds, h, e => by subst h; cases e; exact Reps.nil
  | x :: xs, vs, ds, ⟨w, ws, e1, h1, h2⟩, e => by
    subst e1
    rw [Pyp.dats] at e
    split at e
    · rename_i d ds' e1 e2
      cases e
      exact .cons (h1.dat e1) (RVs.dats h2 e2)
    · cases e
def GA (X : Cx) (M : Addr → Prop) (m : List Addr) (H : Hp) (Q : List V → Hp → Prop) : List Val → PH → Prop := fun x ph => ∀ vs H', Frame m H H' → Rel (kx X) M m H' ph → RVs (kx X) M m H H' vs x → Q vs H'

structure SE (X : Cx) (W : WX) (e : Expr) (x : Ex) : Prop where
  run : ∀ M m σ H env ph, Rel (kx X) M m H ph → EnvR (kx X) M m σ H env → ∀ Q, Post X W M m σ H (GE X M m H Q) (x env ph) → tW X e σ H Q
structure ST (X : Cx) (W : WX) (e : Expr) (x : Tx) : Prop where
  run : ∀ M m σ H env ph, Rel (kx X) M m H ph → EnvR (kx X) M m σ H env → ∀ Q, Post X W M m σ H (GT X M m H Q) (x env ph) → tWT X e σ H Q
structure SA (X : Cx) (W : WX) (es : List Expr) (x : Ax) : Prop where
  run : ∀ M m σ H env ph, Rel (kx X) M m H ph → EnvR (kx X) M m σ H env → ∀ Q, Post X W M m σ H (GA X M m H Q) (x env ph) → tWA X es σ H Q

section
variable {W : WX} {M : Addr → Prop} {m : List Addr} {σ : L2.St} {H : Hp} {env : Env} {ph : PH} {e : Expr} {x : Ex} {α : Type} {G : α → PH → Prop}
theorem SE.bind {f : Val → PH → Res α} (h : SE X W e x) (r : Rel (kx X) M m H ph) (er : EnvR (kx X) M m σ H env) {Q : VK} (q : Post X W M m σ H G ((x env ph).bind f))
    (k : ∀ val ph1 v H1, Frame m H H1 → Rel (kx X) M m H1 ph1 → EnvR (kx X) M m σ H1 env → RV (kx X) M m H H1 v val → RO (kx X) M m H1 ph1 v val → Post X W M m σ H1 G (f val ph1) → Q v H1) : tW X e σ H Q := by
  refine h.run M m σ H env ph r er Q ?_
  cases hx : x env ph with
  | ok val ph1 => rw [hx] at q; exact fun v H1 fr r1 rv ro => k val ph1 v H1 fr r1 (er.keep r fr) rv ro (Post.step fr q)
  | exc c fs ph1 => rw [hx] at q; exact q
  | bad => rw [hx] at q; exact q
theorem ST.bind {x : Tx} {f : Bool → PH → Res α} (h : ST X W e x) (r : Rel (kx X) M m H ph) (er : EnvR (kx X) M m σ H env) {Q : Bool → Hp → Prop} (q : Post X W M m σ H G ((x env ph).bind f))
    (k : ∀ b ph1 H1, Frame m H H1 → Rel (kx X) M m H1 ph1 → EnvR (kx X) M m σ H1 env → Post X W M m σ H1 G (f b ph1) → Q b H1) : tWT X e σ H Q := by
  refine h.run M m σ H env ph r er Q ?_
  cases hx : x env ph with
  | ok val ph1 => rw [hx] at q; exact fun H1 fr r1 => k val ph1 H1 fr r1 (er.keep r fr) (Post.step fr q)
  | exc c fs ph1 => rw [hx] at q; exact q
  | bad => rw [hx] at q; exact q
theorem SA.bind {es : List Expr} {x : Ax} {f : List Val → PH → Res α} (h : SA X W es x) (r : Rel (kx X) M m H ph) (er : EnvR (kx X) M m σ H env) {Q : List V → Hp → Prop} (q : Post X W M m σ H G ((x env ph).bind f))
    (k : ∀ vals ph1 vs H1, Frame m H H1 → Rel (kx X) M m H1 ph1 → EnvR (kx X) M m σ H1 env → RVs (kx X) M m H H1 vs vals → Post X W M m σ H1 G (f vals ph1) → Q vs H1) : tWA X es σ H Q := by
  refine h.run M m σ H env ph r er Q ?_
  cases hx : x env ph with
  | ok val ph1 => rw [hx] at q; exact fun v H1 fr r1 rv => k val ph1 v H1 fr r1 (er.keep r fr) rv (Post.step fr q)
  | exc c fs ph1 => rw [hx] at q; exact q
  | bad => rw [hx] at q; exact q
/-- an answer of a piece that began at H, looked at from H1 -/
theorem GE.at {H1 : Hp} {Q : VK} {val : Val} {ph1 : PH} (fr : Frame m H H1) (r1 : Rel (kx X) M m H1 ph) (q : GE X M m H Q val ph1) : GE X M m H1 Q val ph1 := fun v H' f' r' rv ro =>
  q v H' (fr.trans f') r' (rv.base fun _ h => fr.back r1 h) ro
theorem Post.of {Q : VK} {o : Option Val} (q : Post X W M m σ H (GE X M m H Q) (Res.of o ph)) : ∃ val, o = some val ∧ GE X M m H Q val ph := by
  cases o with
  | none => exact q.elim
  | some v => exact ⟨v, rfl, q⟩
end

/-! ### names, constants -/
def eVar (i : Nat) : Ex := fun env ph => match env[i]? with
  | some (some v) => .ok v.read ph
  | _ => .bad
def eC (d : D) : Ex := fun _ ph => .ok (.d d) ph
section
variable {W : WX} {pos : Pos}
theorem s_var (i : Nat) {n : Str} (hN : X.N[i]? = some n := by rfl) (hv : Vis X.env.scope n := by first | exact Or.inl rfl | exact Or.inr (Or.inl rfl) | exact Or.inr (Or.inr rfl)) (hd : (n == ("__debug__" : Str)) = false := by decide)
    (hcd : (n == ("__classdict__" : Str)) = false := by decide) : SE X W (.Name n pos) (eVar i) := by
  refine ⟨fun M m σ H env ph r er Q q => ?_⟩
  unfold eVar at q
  split at q
  · rename_i v e
    obtain ⟨w, h1, h2⟩ := er.2 i v e
    exact tW_of (pe_var hN hv hd hcd) ⟨w, h1, q w H Frame.refl r h2.rv RO.read⟩
  · exact q.elim
theorem s_int {i : Int} {j : Nat} : SE X W (.Constant (.int i) j pos) (eC (.int i)) := ⟨fun M m σ H env ph r er Q q => tW_of pe_int (q _ H Frame.refl r (by rw [RV, Rep]) RO.d)⟩
theorem s_bl {b : Bool} {j : Nat} : SE X W (.Constant (.bool b) j pos) (eC (.bl b)) := ⟨fun M m σ H env ph r er Q q => tW_of pe_bl (q _ H Frame.refl r (by rw [RV, Rep]) RO.d)⟩
theorem s_non {j : Nat} : SE X W (.Constant .none j pos) (eC .non) := ⟨fun M m σ H env ph r er Q q => tW_of pe_non (q _ H Frame.refl r (by rw [RV, Rep]) RO.d)⟩
theorem s_str (cs : List Nat) {x : Str} {j : Nat} (e : x = ⟨cs.toArray⟩ := by decide +kernel) : SE X W (.Constant (.str x) j pos) (eC (.str cs)) := ⟨fun M m σ H env ph r er Q q => tW_of pe_str (q _ H Frame.refl r (by rw [RV, Rep, e]) RO.d)⟩
end

/-! ### two-place operations by values -/
def OpS (X : Cx) (F : Value → Value → Sem Value) (f : D → D → Option Val) : Prop := ∀ pins s σ H x y u v M m ph dx dy val Q, Inv X pins σ H s → RelV x u → RelV y v → Rel (kx X) M m H ph → CR (kx X) M H dx x → CR (kx X) M H dy y → f dx dy = some val →
  GE X M m H Q val ph → wpAny (model X.prog X.w) X.A (F u v) (EP X pins σ Q) X.xe s
def eBin (f : D → D → Option Val) (a b : Ex) : Ex := fun env ph => (a env ph).bind fun va ph1 => (b env ph1).bind fun vb ph2 => match va.cont ph2, vb.cont ph2 with
  | some x, some y => Res.of (f x y) ph2
  | _, _ => .bad
section
variable {W : WX} {pos : Pos} {a b c : Expr} {xa xb xc : Ex} {f : D → D → Option Val} {F : Value → Value → Sem Value}
theorem bin_core (ho : OpS X F f) (ha : SE X W a xa) (hb : SE X W b xb) {M m σ H env ph Q} (r : Rel (kx X) M m H ph) (er : EnvR (kx X) M m σ H env) (q : Post X W M m σ H (GE X M m H Q) (eBin f xa xb env ph)) : tOp (rW X F) (tW X a) (tW X b) σ H Q := by
  refine ha.bind r er q fun va ph1 v1 H1 fr1 r1 er1 rv1 _ q1 => ?_
  refine hb.bind r1 er1 q1 fun vb ph2 v2 H2 fr2 r2 er2 rv2 _ q2 => ?_
  split at q2
  · rename_i dx dy e1 e2
    obtain ⟨val, ev, g⟩ := Post.of (Q := Q) (M := M) (m := m) (H := H2) (X := X) (W := W) (σ := σ) (o := f dx dy) (ph := ph2) (Post.mono (fun _ _ g => GE.at (fr1.trans fr2) r2 g) q2)
    intro pins s σ' u v I rx ry
    exact ho pins s σ' H2 v1 v2 u v M m ph2 dx dy val Q I rx ry r2 ((rv1.keep r1 fr2).cr r2 e1) (rv2.cr r2 e2) ev g
  · exact q2.elim
theorem s_bin {op : Operator} (ho : OpS X (binaryOp op) f) (ha : SE X W a xa) (hb : SE X W b xb) : SE X W (.BinOp a op b pos) (eBin f xa xb) :=
  ⟨fun M m σ H env ph r er Q q => tW_of (pe_op rW_op tW_pe tW_pe) (bin_core ho ha hb r er q)⟩
theorem s_cmp {op : CmpOp} (ho : OpS X (compareOp op) f) (ha : SE X W a xa) (hb : SE X W b xb) (hm : behindInMarks op b = false := by first | exact nobehind _ (by decide) (by decide) | rfl) : SE X W (.Compare a [op] [b] pos) (eBin f xa xb) :=
  ⟨fun M m σ H env ph r er Q q => tW_of (pe_cmpR rW_op tW_pe tW_pe hm) (bin_core ho ha hb r er q)⟩
end
/-- the truth of what has come, where it is a truth -/
def tB (x : Ex) : Tx := fun env ph => (x env ph).bind fun v ph1 => match v with
  | .d (.bl b) => .ok b ph1
  | _ => .bad
section
variable {W : WX} {pos : Pos} {a b c e : Expr} {xa xb xc x : Ex} {ta tb : Tx} {f f' : D → D → Option Val}
theorem Post.tB {M m σ H Q} {r : Res Val} (q : Post X W M m σ H (GT X M m H Q) (r.bind fun v ph1 => match v with | .d (.bl b) => .ok b ph1 | _ => .bad)) :
    Post X W M m σ H (GE X M m H fun y H1 => ∃ c, y = .bl c ∧ Q c H1) r := by
  cases r with
  | ok v ph1 =>
    cases v with
    | d d =>
      cases d with
      | bl b => exact fun v H' f r rv _ => ⟨b, by rw [RV, Rep] at rv; exact rv, q H' f r⟩
      | _ => exact q.elim
    | _ => exact q.elim
  | exc c fs ph1 => exact q
  | bad => exact q
theorem t_val (h : SE X W e x) (he : ∀ whole, isTrue e X.env whole = (do let v ← whole; standAt e.pos; holding [v] (truthy v)) := by intro _; rfl) : ST X W e (tB x) :=
  ⟨fun M m σ H env ph r er Q q => tWT_of (pt_val tW_pe he) (h.run M m σ H env ph r er _ (Post.tB q))⟩
theorem t_cmp {op : CmpOp} (ho : OpS X (compareOp op) f) (ha : SE X W a xa) (hb : SE X W b xb) (hm : behindInMarks op b = false := by first | exact nobehind _ (by decide) (by decide) | rfl) : ST X W (.Compare a [op] [b] pos) (tB (eBin f xa xb)) :=
  ⟨fun M m σ H env ph r er Q q => tWT_of (pt_cmpR rW_op tW_pe tW_pe hm) (bin_core ho ha hb r er (Post.tB q))⟩

/-! ### not, and, or -/
def tNot (t : Tx) : Tx := fun env ph => (t env ph).bind fun b ph1 => .ok (!b) ph1
def tAnd (t u : Tx) : Tx := fun env ph => (t env ph).bind fun b ph1 => if b = true then u env ph1 else .ok false ph1
def tOr (t u : Tx) : Tx := fun env ph => (t env ph).bind fun b ph1 => if b = true then .ok true ph1 else u env ph1
theorem t_not (h : ST X W a ta) : ST X W (.UnaryOp .Not a pos) (tNot ta) := ⟨fun M m σ H env ph r er Q q => tWT_of (pt_not tWT_pt)
  (h.bind r er q fun b ph1 H1 fr r1 er1 g => g H1 fr r1)⟩
/-- a row of and, of or, as tests -/
structure SW (X : Cx) (W : WX) (e : Expr) (x : Tx) : Prop where
  run : ∀ M m σ H env ph, Rel (kx X) M m H ph → EnvR (kx X) M m σ H env → ∀ Q, Post X W M m σ H (GT X M m H Q) (x env ph) → ∃ t, PW X e t ∧ t σ H Q
theorem w_and1 (h : ST X W a ta) : SW X W (.BoolOp .And [a] pos) ta := ⟨fun M m σ H env ph r er Q q => ⟨_, pw_and1 tWT_pt, h.run M m σ H env ph r er Q q⟩⟩
theorem w_or1 (h : ST X W a ta) : SW X W (.BoolOp .Or [a] pos) ta := ⟨fun M m σ H env ph r er Q q => ⟨_, pw_or1 tWT_pt, h.run M m σ H env ph r er Q q⟩⟩
def tWW (X : Cx) (e : Expr) : TT := fun σ H Q => ∀ whole pins s, Inv X pins σ H s → wpAny (model X.prog X.w) X.A (isTrue e X.env whole) (TP X pins σ Q) X.xe s
theorem tWW_pw {e : Expr} : PW X e (tWW X e) := ⟨fun wh pins s σ H Q I h => h wh pins s I⟩
theorem SW.weak {σ H Q e} (h : ∃ t, PW X e t ∧ t σ H Q) : tWW X e σ H Q := fun wh pins s I => let ⟨_, p, q⟩ := h; p.run wh pins s σ H Q I q
theorem GT.at {M m H H1 b ph1} {Q : Bool → Hp → Prop} (fr : Frame m H H1) (q : GT X M m H Q b ph1) : GT X M m H1 Q b ph1 := fun H' f' r' => q H' (fr.trans f') r'
variable {rest : List Expr}
theorem w_and (ha : ST X W a ta) (hb : SW X W (.BoolOp .And (b :: rest) pos) tb) : SW X W (.BoolOp .And (a :: b :: rest) pos) (tAnd ta tb) := ⟨fun M m σ H env ph r er Q q => ⟨_, pw_and tWT_pt tWW_pw, by
  refine ha.bind r er q fun c ph1 H1 fr r1 er1 g => ?_
  cases c with
  | true => exact SW.weak (hb.run M m σ H1 env ph1 r1 er1 Q (Post.mono (fun _ _ g => GT.at fr g) g))
  | false => exact g H1 fr r1⟩⟩
theorem w_or (ha : ST X W a ta) (hb : SW X W (.BoolOp .Or (b :: rest) pos) tb) : SW X W (.BoolOp .Or (a :: b :: rest) pos) (tOr ta tb) := ⟨fun M m σ H env ph r er Q q => ⟨_, pw_or tWT_pt tWW_pw, by
  refine ha.bind r er q fun c ph1 H1 fr r1 er1 g => ?_
  cases c with
  | false => exact SW.weak (hb.run M m σ H1 env ph1 r1 er1 Q (Post.mono (fun _ _ g => GT.at fr g) g))
  | true => exact g H1 fr r1⟩⟩
theorem SW.st (h : SW X W e ta) : ST X W e ta := ⟨fun M m σ H env ph r er Q q => let ⟨_, p, q⟩ := h.run M m σ H env ph r er Q q; tWT_of p.pt q⟩
/-- as values: truths -/
def eAnd (x y : Ex) : Ex := fun env ph => (tB x env ph).bind fun b ph1 => if b = true then y env ph1 else .ok (.d (.bl false)) ph1
def eOr (x y : Ex) : Ex := fun env ph => (tB x env ph).bind fun b ph1 => if b = true then .ok (.d (.bl true)) ph1 else y env ph1
def eNot (x : Ex) : Ex := fun env ph => (tB x env ph).bind fun b ph1 => .ok (.d (.bl (!b))) ph1
theorem bind_assoc {α β γ : Type} (r : Res α) (f : α → PH → Res β) (g : β → PH → Res γ) : (r.bind f).bind g = r.bind fun a ph => (f a ph).bind g := by
  cases r <;> rfl
theorem Post.tB2 {M m σ H H0 Q} {r : Res Val} {k : Bool → PH → Res Val} (q : Post X W M m σ H (GE X M m H0 Q) ((r.bind fun v ph1 => match v with | .d (.bl b) => .ok b ph1 | _ => .bad).bind k)) (R : Bool → Hp → Prop)
    (hk : ∀ c ph1 H1, Frame m H H1 → Rel (kx X) M m H1 ph1 → Post X W M m σ H1 (GE X M m H0 Q) (k c ph1) → R c H1) : Post X W M m σ H (GE X M m H fun y H1 => ∃ c, y = .bl c ∧ R c H1) r := by
  cases r with
  | ok v ph1 =>
    cases v with
    | d d =>
      cases d with
      | bl b => exact fun v H' f r rv _ => ⟨b, by rw [RV, Rep] at rv; exact rv, hk b ph1 H' f r (Post.step f q)⟩
      | _ => exact q.elim
    | _ => exact q.elim
  | exc c fs ph1 => exact q
  | bad => exact q
theorem s_one {op} (h : SE X W a x) : SE X W (.BoolOp op [a] pos) x := ⟨fun M m σ H env ph r er Q q => tW_of (pe_one tW_pe) (h.run M m σ H env ph r er Q q)⟩
theorem rv_bl {M m H0 H} {b : Bool} : RV (kx X) M m H0 H (.bl b) (.d (.bl b)) := by rw [RV, Rep]
theorem s_and (ha : SE X W a xa) (hb : SE X W (.BoolOp .And (b :: rest) pos) xb) : SE X W (.BoolOp .And (a :: b :: rest) pos) (eAnd xa xb) := ⟨fun M m σ H env ph r er Q q => tW_of (pe_and tW_pe tW_pe) (by
  refine ha.run M m σ H env ph r er _ (Post.tB2 q (fun c H1 => if c = true then tW X _ σ H1 Q else Q (.bl false) H1) fun c ph1 H1 fr r1 g => ?_)
  cases c with
  | true => exact hb.run M m σ H1 env ph1 r1 (er.keep r fr) Q (Post.mono (fun _ _ g => GE.at fr r1 g) g)
  | false => exact g _ H1 fr r1 rv_bl RO.d)⟩
theorem s_or (ha : SE X W a xa) (hb : SE X W (.BoolOp .Or (b :: rest) pos) xb) : SE X W (.BoolOp .Or (a :: b :: rest) pos) (eOr xa xb) := ⟨fun M m σ H env ph r er Q q => tW_of (pe_or tW_pe tW_pe) (by
  refine ha.run M m σ H env ph r er _ (Post.tB2 q (fun c H1 => if c = true then Q (.bl true) H1 else tW X _ σ H1 Q) fun c ph1 H1 fr r1 g => ?_)
  cases c with
  | false => exact hb.run M m σ H1 env ph1 r1 (er.keep r fr) Q (Post.mono (fun _ _ g => GE.at fr r1 g) g)
  | true => exact g _ H1 fr r1 rv_bl RO.d)⟩
theorem s_not (h : SE X W a x) : SE X W (.UnaryOp .Not a pos) (eNot x) := ⟨fun M m σ H env ph r er Q q => tW_of (pe_not tW_pe) (by
  refine h.run M m σ H env ph r er _ (Post.tB2 q (fun c H1 => Q (.bl (!c)) H1) fun c ph1 H1 fr r1 g => ?_)
  exact g _ H1 fr r1 rv_bl RO.d)⟩
/-- a if t else b -/
def eIf (t : Tx) (x y : Ex) : Ex := fun env ph => (t env ph).bind fun b ph1 => if b = true then x env ph1 else y env ph1
theorem s_if (hc : ST X W c ta) (ha : SE X W a xa) (hb : SE X W b xb) : SE X W (.IfExp c a b pos) (eIf ta xa xb) := ⟨fun M m σ H env ph r er Q q => tW_of (pe_ifExp tWT_pt tW_pe tW_pe) (by
  refine hc.bind r er q fun c ph1 H1 fr r1 er1 g => ?_
  cases c with
  | true => exact ha.run M m σ H1 env ph1 r1 er1 Q (Post.mono (fun _ _ g => GE.at fr r1 g) g)
  | false => exact hb.run M m σ H1 env ph1 r1 er1 Q (Post.mono (fun _ _ g => GE.at fr r1 g) g))⟩

/-! ### rows of values -/
def aNil : Ax := fun _ ph => .ok [] ph
def aCons (x : Ex) (xs : Ax) : Ax := fun env ph => (x env ph).bind fun v ph1 => (xs env ph1).bind fun vs ph2 => .ok (v :: vs) ph2
theorem a_nil : SA X W [] aNil := ⟨fun M m σ H env ph r er Q q => tWA_of pa_nil (q [] H Frame.refl r rfl)⟩
theorem a_cons {es : List Expr} {xs : Ax} (h : SE X W e x) (hs : SA X W es xs) (hst : starEach (e :: es) X.env = (false, eval e X.env) :: starEach es X.env := by rfl) : SA X W (e :: es) (aCons x xs) := ⟨fun M m σ H env ph r er Q q => tWA_of (pa_cons tW_pe tWA_pa hst) (by
  refine h.bind r er q fun v ph1 w H1 fr1 r1 er1 rv1 _ q1 => ?_
  refine hs.bind r1 er1 q1 fun vs ph2 ws H2 fr2 r2 er2 rv2 q2 => ?_
  exact q2 (w :: ws) H2 (fr1.trans fr2) r2 ⟨w, ws, rfl, rv1.keep r1 fr2, rv2.base fun _ z => fr1.back r1 z⟩)⟩
/-! displays -/
def lim : Nat := 1000000
theorem lim_line {n : Nat} (h : n ≤ lim) : n ≤ sizeLine := Nat.le_trans h (by decide)
theorem lim_lt {n : Nat} (h : n ≤ lim) : n < sizeLine := Nat.lt_of_le_of_lt h (by decide)
def eTup (xs : Ax) : Ex := fun env ph => (xs env ph).bind fun vs ph1 => match dats vs with
  | some ds => if ds.length ≤ lim then .ok (.d (.tup ds)) ph1 else .bad
  | none => .bad
def eLst (xs : Ax) : Ex := fun env ph => (xs env ph).bind fun vs ph1 => match dats vs with
  | some ds => if ds.length ≤ lim then .ok (.own (.lst ds)) ph1 else .bad
  | none => .bad
theorem tup_new {K M m H ph p ds xs} (r : Rel K M m H ph) (hp : H p = none) (h : Reps K M H ds xs) : Rep K M (upd H p (.tup xs)) (.tup ds) (.ref p) := by
  rw [Rep]
  exact ⟨p, xs, rfl, .inl ⟨r.notM hp, .inl upd_same⟩, Reps.keep (keep_new hp) _ _ h⟩
theorem own_new {K M m H H0 ph p ds xs} (r : Rel K M m H ph) (hp : H p = none) (h0 : H0 p = none) (h : Reps K M H ds xs) : RV K M m H0 (upd H p (.lst xs)) (.ref p) (.own (.lst ds)) :=
  ⟨p, rfl, h0, r.notM hp, xs, upd_same, Reps.keep (keep_new hp) _ _ h⟩
theorem own_ro {K M m H ph p ds xs} (r : Rel K M m H ph) (hp : H p = none) (h : Reps K M H ds xs) : RO K M m (upd H p (.lst xs)) ph (.ref p) (.own (.lst ds)) := fun d e a ea => by
  cases e; cases ea
  exact ⟨r.newM hp, xs, upd_same, Reps.keep (keep_new hp) _ _ (Reps.fresh hp _ _ h)⟩
theorem s_tup {es : List Expr} {xs : Ax} {k : Nat} (h : SA X W es xs) : SE X W (.Tuple es k pos) (eTup xs) := ⟨fun M m σ H env ph r er Q q => tW_of (pe_tup tWA_pa) (by
  refine h.bind r er q fun vs ph1 ws H1 fr r1 er1 rv q1 => ?_
  split at q1
  · rename_i ds ed
    have rp := rv.dats ed
    split at q1
    · rename_i hl
      exact ⟨by rw [rp.length]; exact lim_line hl, fun p hp => q1 (.ref p) _ (fr.trans (Frame.new hp)) (r1.new hp) (tup_new r1 hp rp) RO.d⟩
    · exact q1.elim
  · exact q1.elim)⟩
theorem s_lst {es : List Expr} {xs : Ax} (h : SA X W es xs) : SE X W (.List es pos) (eLst xs) := ⟨fun M m σ H env ph r er Q q => tW_of (pe_lst tWA_pa) (by
  refine h.bind r er q fun vs ph1 ws H1 fr r1 er1 rv q1 => ?_
  split at q1
  · rename_i ds ed
    have rp := rv.dats ed
    split at q1
    · rename_i hl
      exact ⟨by rw [rp.length]; exact lim_line hl, fun p hp => q1 (.ref p) _ (fr.trans (Frame.new hp)) (r1.new hp) (own_new r1 hp (fr.back r1 hp) rp) (own_ro r1 hp rp)⟩
    · exact q1.elim
  · exact q1.elim)⟩
end
end Pyp

/-! Statements, defs, calls. -/
namespace Pyp
open PySem L2

inductive Out where
  | nx (env : Env) (ph : PH) | ret (v : Val) (ph : PH) | bk (env : Env) (ph : PH) | ct (env : Env) (ph : PH) | exc (c : Str) (fs : List (Str × D)) (env : Env) (ph : PH) | bad
abbrev Sx := Env → PH → Out
def Res.bindS {α : Type} (r : Res α) (env : Env) (f : α → PH → Out) : Out := match r with
  | .ok a ph => f a ph
  | .exc c fs ph => .exc c fs env ph
  | .bad => .bad
@[simp] theorem Res.bindS_ok {α : Type} (a : α) (ph : PH) (env : Env) (f : α → PH → Out) : (Res.ok a ph).bindS env f = f a ph := rfl
@[simp] theorem Res.bindS_exc {α : Type} (c : Str) (fs : List (Str × D)) (ph : PH) (env : Env) (f : α → PH → Out) : (Res.exc c fs ph : Res α).bindS env f = .exc c fs env ph := rfl
@[simp] theorem Res.bindS_bad {α : Type} (env : Env) (f : α → PH → Out) : (Res.bad : Res α).bindS env f = .bad := rfl
def Out.bind (o : Out) (f : Sx) : Out := match o with
  | .nx env ph => f env ph
  | o => o
@[simp] theorem Out.bind_nx (env : Env) (ph : PH) (f : Sx) : (Out.nx env ph).bind f = f env ph := rfl
@[simp] theorem Out.bind_ret (v : Val) (ph : PH) (f : Sx) : (Out.ret v ph).bind f = .ret v ph := rfl
@[simp] theorem Out.bind_bk (env : Env) (ph : PH) (f : Sx) : (Out.bk env ph).bind f = .bk env ph := rfl
@[simp] theorem Out.bind_ct (env : Env) (ph : PH) (f : Sx) : (Out.ct env ph).bind f = .ct env ph := rfl
@[simp] theorem Out.bind_exc (c : Str) (fs : List (Str × D)) (env : Env) (ph : PH) (f : Sx) : (Out.exc c fs env ph).bind f = .exc c fs env ph := rfl
@[simp] theorem Out.bind_bad (f : Sx) : Out.bad.bind f = .bad := rfl

section
variable (X : Cx)
def tWS (st : Stmt) : TS := fun D σ H => ∀ pins s, Inv X pins σ H s → wpAny (model X.prog X.w) X.A (exec st X.env) (SP X pins D) X.xe s
def tWB (st : List Stmt) : TS := fun D σ H => ∀ pins s, Inv X pins σ H s → wpAny (model X.prog X.w) X.A (execs st X.env) (SP X pins D) X.xe s
end
variable {X : Cx}
theorem tWS_ps {st : Stmt} : PS X st (tWS X st) := ⟨fun pins s σ H D I h => h pins s I⟩
theorem tWS_of {st : Stmt} {t : TS} {D : Ends} {σ : L2.St} {H : Hp} (h : PS X st t) (q : t D σ H) : tWS X st D σ H := fun pins s I => h.run pins s σ H D I q
theorem tWB_ps {st : List Stmt} : PSs X st (tWB X st) := ⟨fun pins s σ H D I h => h pins s I⟩
theorem tWB_of {st : List Stmt} {t : TS} {D : Ends} {σ : L2.St} {H : Hp} (h : PSs X st t) (q : t D σ H) : tWB X st D σ H := fun pins s I => h.run pins s σ H D I q

/-- the state in a def that began with M0, H0; what hd holds beside the slots is data -/
structure StR (K : Kx) (M0 : Addr → Prop) (H0 : Hp) (hd : V → D → Prop) (M : Addr → Prop) (m : List Addr) (σ : L2.St) (H : Hp) (env : Env) (ph : PH) : Prop where
  rel : Rel K M m H ph
  er : EnvR K M m σ H env
  len : env.length = σ.length
  sub : ∀ a, M0 a → M a
  mem : ∀ a ∈ m, M0 a
  fr : Frame m H0 H
  own : ∀ (i : Nat) (x : D) (a : Addr), env[i]? = some (some (.own x)) → σ[i]? = some (some (V.ref a)) → H0 a = none ∧ ¬ M0 a
  sep : ∀ (i j : Nat) (x y : D) (a : Addr), i ≠ j → env[i]? = some (some (.own x)) → env[j]? = some (some (.own y)) → σ[i]? = some (some (V.ref a)) → σ[j]? = some (some (V.ref a)) → False
  held : ∀ v d, hd v d → Rep K M H d v
section
variable {K : Kx} {M0 M : Addr → Prop} {H0 H H' : Hp} {hd : V → D → Prop} {m : List Addr} {σ : L2.St} {env : Env} {ph ph' : PH}
theorem StR.keep (s : StR K M0 H0 hd M m σ H env ph) (f : Frame m H H') (r : Rel K M m H' ph') : StR K M0 H0 hd M m σ H' env ph' :=
  ⟨r, s.er.keep s.rel f, s.len, s.sub, s.mem, s.fr.trans f, s.own, s.sep, fun v d h => Rep.keep (f.keep s.rel) d v (s.held v d h)⟩
end

def PostS (X : Cx) (W : WX) (M0 : Addr → Prop) (H0 : Hp) (hd : V → D → Prop) (m : List Addr) (D : Ends) : Out → Prop
  | .nx env ph => ∀ M σ H, StR (kx X) M0 H0 hd M m σ H env ph → D.nx σ H
  | .bk env ph => ∀ M σ H, StR (kx X) M0 H0 hd M m σ H env ph → D.bk σ H
  | .ct env ph => ∀ M σ H, StR (kx X) M0 H0 hd M m σ H env ph → D.ct σ H
  | .ret v ph => ∀ w H', Frame m H0 H' → Rel (kx X) M0 m H' ph → RV (kx X) M0 m H0 H' w v → RO (kx X) M0 m H' ph w v → D.rt w H'
  | .exc c fs env ph => ∀ M σ H cls d, StR (kx X) M0 H0 hd M m σ H env ph → ExR X.mg (kx X) M H c fs cls d → W cls d σ H
  | .bad => False

structure SS (X : Cx) (W : WX) (st : Stmt) (x : Sx) : Prop where
  run : ∀ M0 H0 hd M m σ H env ph, StR (kx X) M0 H0 hd M m σ H env ph → ∀ D, PostS X W M0 H0 hd m D (x env ph) → tWS X st D σ H
structure SB (X : Cx) (W : WX) (st : List Stmt) (x : Sx) : Prop where
  run : ∀ M0 H0 hd M m σ H env ph, StR (kx X) M0 H0 hd M m σ H env ph → ∀ D, PostS X W M0 H0 hd m D (x env ph) → tWB X st D σ H

section
variable {W : WX} {M0 M : Addr → Prop} {H0 H : Hp} {hd : V → D → Prop} {m : List Addr} {σ : L2.St} {env : Env} {ph : PH} {e : Expr} {x : Ex} {D : Ends}
theorem SE.bindS {f : Val → PH → Out} (h : SE X W e x) (s : StR (kx X) M0 H0 hd M m σ H env ph) {Q : VK} (q : PostS X W M0 H0 hd m D ((x env ph).bindS env f))
    (k : ∀ val ph1 v H1, Frame m H H1 → StR (kx X) M0 H0 hd M m σ H1 env ph1 → RV (kx X) M m H H1 v val → RO (kx X) M m H1 ph1 v val → PostS X W M0 H0 hd m D (f val ph1) → Q v H1) : tW X e σ H Q := by
  refine h.run M m σ H env ph s.rel s.er Q ?_
  cases hx : x env ph with
  | ok val ph1 => rw [hx] at q; exact fun v H1 fr r1 rv ro => k val ph1 v H1 fr (s.keep fr r1) rv ro q
  | exc c fs ph1 => rw [hx] at q; exact fun cls d H1 fr r1 ex => q M σ H1 cls d (s.keep fr r1) ex
  | bad => rw [hx] at q; exact q
theorem ST.bindS {x : Tx} {f : Bool → PH → Out} (h : ST X W e x) (s : StR (kx X) M0 H0 hd M m σ H env ph) {Q : Bool → Hp → Prop} (q : PostS X W M0 H0 hd m D ((x env ph).bindS env f))
    (k : ∀ b ph1 H1, Frame m H H1 → StR (kx X) M0 H0 hd M m σ H1 env ph1 → PostS X W M0 H0 hd m D (f b ph1) → Q b H1) : tWT X e σ H Q := by
  refine h.run M m σ H env ph s.rel s.er Q ?_
  cases hx : x env ph with
  | ok val ph1 => rw [hx] at q; exact fun H1 fr r1 => k val ph1 H1 fr (s.keep fr r1) q
  | exc c fs ph1 => rw [hx] at q; exact fun cls d H1 fr r1 ex => q M σ H1 cls d (s.keep fr r1) ex
  | bad => rw [hx] at q; exact q
theorem SA.bindS {es : List Expr} {x : Ax} {f : List Val → PH → Out} (h : SA X W es x) (s : StR (kx X) M0 H0 hd M m σ H env ph) {Q : List V → Hp → Prop} (q : PostS X W M0 H0 hd m D ((x env ph).bindS env f))
    (k : ∀ vals ph1 vs H1, Frame m H H1 → StR (kx X) M0 H0 hd M m σ H1 env ph1 → RVs (kx X) M m H H1 vs vals → PostS X W M0 H0 hd m D (f vals ph1) → Q vs H1) : tWA X es σ H Q := by
  refine h.run M m σ H env ph s.rel s.er Q ?_
  cases hx : x env ph with
  | ok val ph1 => rw [hx] at q; exact fun v H1 fr r1 rv => k val ph1 v H1 fr (s.keep fr r1) rv q
  | exc c fs ph1 => rw [hx] at q; exact fun cls d H1 fr r1 ex => q M σ H1 cls d (s.keep fr r1) ex
  | bad => rw [hx] at q; exact q
end

/-! ### changes of a state -/
section
variable {K : Kx} {M0 M : Addr → Prop} {H0 H H' : Hp} {hd : V → D → Prop} {m : List Addr} {σ σ' : L2.St} {env env' : Env} {ph ph' : PH} {i : Nat} {d : D} {v : V} {a : Addr}
theorem lt_of_set {α : Type} {l : List α} {i : Nat} {x y : α} (h : (l.set i x)[i]? = some y) : i < l.length := by
  have := (List.getElem?_eq_some_iff.mp h).1
  simpa using this
/-- only slots of sl change, and to data -/
structure Chg (sl : List Nat) (σ σ' : L2.St) (env env' : Env) : Prop where
  lenE : env'.length = env.length
  lenS : σ'.length = σ.length
  outE : ∀ j : Nat, j ∉ sl → env'[j]? = env[j]?
  outS : ∀ j : Nat, j ∉ sl → σ'[j]? = σ[j]?
  inE : ∀ (j : Nat) (x : D), j ∈ sl → env'[j]? ≠ some (some (.own x))
theorem Chg.refl : Chg [] σ σ env env := ⟨rfl, rfl, fun _ _ => rfl, fun _ _ => rfl, fun _ _ h => nomatch h⟩
theorem Chg.trans {sl sl' : List Nat} {σ1 : L2.St} {env1 : Env} (a : Chg sl σ σ1 env env1) (b : Chg sl' σ1 σ' env1 env') : Chg (sl ++ sl') σ σ' env env' :=
  ⟨b.lenE.trans a.lenE, b.lenS.trans a.lenS, fun j h => (b.outE j fun z => h (List.mem_append_right _ z)).trans (a.outE j fun z => h (List.mem_append_left _ z)),
    fun j h => (b.outS j fun z => h (List.mem_append_right _ z)).trans (a.outS j fun z => h (List.mem_append_left _ z)), fun j x h => by
      by_cases hb : j ∈ sl'
      · exact b.inE j x hb
      · rw [b.outE j hb]
        exact a.inE j x ((List.mem_append.mp h).resolve_right hb)⟩
theorem Chg.one (hl : env.length = σ.length) : Chg [i] σ (σ.set i (some v)) env (env.set i (some (.d d))) :=
  ⟨by simp, by simp, fun j h => List.getElem?_set_ne fun z => h (by simp [z]), fun j h => List.getElem?_set_ne fun z => h (by simp [z]), fun j x h e => by
    have : j = i := by simpa using h
    subst this
    rw [List.getElem?_set_self (lt_of_set e)] at e; cases e⟩
theorem StR.chg {sl : List Nat} (s : StR K M0 H0 hd M m σ H env ph) (c : Chg sl σ σ' env env') (er : EnvR K M m σ' H env') : StR K M0 H0 hd M m σ' H env' ph := by
  have back : ∀ (j : Nat) (x : D), env'[j]? = some (some (.own x)) → j ∉ sl := fun j x e h => c.inE j x h e
  refine ⟨s.rel, er, by rw [c.lenE, c.lenS, s.len], s.sub, s.mem, s.fr, fun j x a e1 e2 => ?_, fun j k x y a ne e1 e2 e3 e4 => ?_, s.held⟩
  · have n := back j x e1
    rw [c.outE j n] at e1
    rw [c.outS j n] at e2
    exact s.own j x a e1 e2
  · have n1 := back j x e1
    have n2 := back k y e2
    rw [c.outE j n1] at e1
    rw [c.outS j n1] at e3
    rw [c.outE k n2] at e2
    rw [c.outS k n2] at e4
    exact s.sep j k x y a ne e1 e2 e3 e4
theorem EnvR.set (er : EnvR K M m σ H env) (hl : env.length = σ.length) {x : Val} (h : SlotR K M m H v x) : EnvR K M m (σ.set i (some v)) H (env.set i (some x)) := ⟨by simp [hl], fun j y e => by
  by_cases hj : i = j
  · subst hj
    have hi := lt_of_set e
    rw [List.getElem?_set_self hi] at e; cases e
    exact ⟨v, List.getElem?_set_self (by rw [← hl]; exact hi), h⟩
  · rw [List.getElem?_set_ne hj] at e
    rw [List.getElem?_set_ne hj]
    exact er.2 j y e⟩
theorem StR.setD (s : StR K M0 H0 hd M m σ H env ph) (h : Rep K M H d v) : StR K M0 H0 hd M m (σ.set i (some v)) H (env.set i (some (.d d))) ph :=
  s.chg (Chg.one s.len) (s.er.set s.len h)
/-- a list just made gets a name -/
theorem StR.setOwn {phs : PH} {Hs : Hp} (s : StR K M0 H0 hd M m σ Hs env phs) (f : Frame m Hs H) (r : Rel K (MAdd M a) m H ph) (c : Cont K (MAdd M a) H a d) (ha : Hs a = none) (nm : ¬ M a) :
    StR K M0 H0 hd (MAdd M a) m (σ.set i (some (.ref a))) H (env.set i (some (.own d))) ph := by
  have k : KeepP (MAdd M a) Hs H := fun b o h n => f b o h fun z => n (.inl (s.rel.sub b z))
  have rep : ∀ (d : D) (v : V), Rep K M Hs d v → Rep K (MAdd M a) H d v := fun d v h => Rep.keep k d v (Rep.fresh ha d v h)
  have am : a ∉ m := fun z => nm (s.rel.sub a z)
  have slot : ∀ (x : Val) (v : V), SlotR K M m Hs v x → SlotR K (MAdd M a) m H v x := fun x v h => by
    cases x with
    | d x => exact rep x v h
    | own x =>
      obtain ⟨b, e, h1, h2, h3⟩ := h
      exact ⟨b, e, .inl h1, h2, (h3.fresh ha).keep k fun o z => f b o z h2⟩
    | bor x => exact h.elim
    | ref n => exact h
  have er : EnvR K (MAdd M a) m σ H env := ⟨s.len, fun j x e => let ⟨v, h1, h2⟩ := s.er.2 j x e; ⟨v, h1, slot x v h2⟩⟩
  have other : ∀ (j : Nat) (y : D), env[j]? = some (some (.own y)) → σ[j]? = some (some (V.ref a)) → False := fun j y e1 e2 => by
    obtain ⟨v, h1, b, e, h2, _⟩ := s.er.2 j _ e1
    rw [e2] at h1
    have e' : V.ref a = v := by simpa using h1
    subst e'
    cases e
    exact nm h2
  refine ⟨r, er.set s.len ⟨a, rfl, .inr rfl, am, c⟩, by simp [s.len], fun b h => .inl (s.sub b h), s.mem, s.fr.trans f, fun j x b e1 e2 => ?_, fun j k x y b ne e1 e2 e3 e4 => ?_, fun v d h => rep d v (s.held v d h)⟩
  · by_cases hj : i = j
    · subst hj
      have hi := lt_of_set e1
      rw [List.getElem?_set_self (by rw [← s.len]; exact hi)] at e2
      have e' : a = b := by simpa using e2
      subst e'
      exact ⟨s.fr.back s.rel ha, fun z => nm (s.sub a z)⟩
    · rw [List.getElem?_set_ne hj] at e1 e2
      exact s.own j x b e1 e2
  · by_cases hj : i = j
    · subst hj
      have hi := lt_of_set e1
      rw [List.getElem?_set_self (by rw [← s.len]; exact hi)] at e3
      have e' : a = b := by simpa using e3
      subst e'
      rw [List.getElem?_set_ne ne] at e2 e4
      exact other k y e2 e4
    · by_cases hk : i = k
      · subst hk
        have hi := lt_of_set e2
        rw [List.getElem?_set_self (by rw [← s.len]; exact hi)] at e4
        have e' : a = b := by simpa using e4
        subst e'
        rw [List.getElem?_set_ne hj] at e1 e3
        exact other j x e1 e3
      · rw [List.getElem?_set_ne hj] at e1 e3
        rw [List.getElem?_set_ne hk] at e2 e4
        exact s.sep j k x y b ne e1 e2 e3 e4
/-- a local list that nobody will write any more -/
theorem StR.frz (s : StR K M0 H0 hd M m σ H env ph) {x : D} (e : env[i]? = some (some (.own x))) : ∃ M', StR K M0 H0 hd M' m σ H (env.set i (some (.d x))) ph := by
  obtain ⟨v, e1, a, rfl, ma, am, c⟩ := s.er.2 i _ e
  obtain ⟨h0, n0⟩ := s.own i x a e e1
  have k : ∀ b, (M b ∧ b ≠ a) → M b := fun b z => z.1
  have hi : i < env.length := (List.getElem?_eq_some_iff.mp e).1
  refine ⟨fun b => M b ∧ b ≠ a, ⟨s.rel.len, s.rel.nd, fun b z => ⟨s.rel.sub b z, fun q => am (q ▸ z)⟩, fun b z => s.rel.dom b z.1, fun n b d z1 z2 => (s.rel.cont n b d z1 z2).anti k⟩, ⟨by simp [s.len], fun j y ey => ?_⟩, by simp [s.len], fun b z => ⟨s.sub b z, fun q => n0 (q ▸ z)⟩, s.mem, s.fr,
    fun j y b e2 e3 => ?_, fun j l y z b ne e2 e3 e4 e5 => ?_, fun v d h => Rep.anti k d v (s.held v d h)⟩
  · by_cases hj : i = j
    · subst hj
      rw [List.getElem?_set_self hi] at ey; cases ey
      exact ⟨_, e1, (c.anti k).rep fun z => z.2 rfl⟩
    · rw [List.getElem?_set_ne hj] at ey
      obtain ⟨w, h1, h2⟩ := s.er.2 j y ey
      refine ⟨w, h1, ?_⟩
      cases y with
      | d y => exact Rep.anti k y w h2
      | own y =>
        obtain ⟨b, eb, h3, h4, h5⟩ := h2
        subst eb
        exact ⟨b, rfl, ⟨h3, fun q => s.sep i j x y a hj e ey e1 (q ▸ h1)⟩, h4, h5.anti k⟩
      | bor y => exact h2.elim
      | ref n => exact h2
  · by_cases hj : i = j
    · subst hj
      rw [List.getElem?_set_self hi] at e2; cases e2
    · rw [List.getElem?_set_ne hj] at e2
      exact s.own j y b e2 e3
  · have hj : i ≠ j := fun q => by subst q; rw [List.getElem?_set_self hi] at e2; cases e2
    have hl : i ≠ l := fun q => by subst q; rw [List.getElem?_set_self hi] at e3; cases e3
    rw [List.getElem?_set_ne hj] at e2
    rw [List.getElem?_set_ne hl] at e3
    exact s.sep j l y z b ne e2 e3 e4 e5
/-- a local list is written -/
theorem StR.mutOwn (s : StR K M0 H0 hd M m σ H env ph) {x y : D} (e : env[i]? = some (some (.own x))) (e1 : σ[i]? = some (some (V.ref a))) (f : ∀ b o, b ≠ a → H b = some o → H' b = some o) (c : Cont K M H' a y) :
    StR K M0 H0 hd M m σ H' (env.set i (some (.own y))) ph := by
  obtain ⟨v, q1, a', ea, ma, am, _⟩ := s.er.2 i _ e
  rw [e1] at q1
  have e' : V.ref a = v := by simpa using q1
  subst e'
  cases ea
  have hi : i < env.length := (List.getElem?_eq_some_iff.mp e).1
  have k : KeepP M H H' := fun b o h n => f b o (fun q => n (q ▸ ma)) h
  have dom : ∀ b, M b → ∃ o, H' b = some o := fun b hb => by
    by_cases q : b = a
    · subst q; exact c.some
    · obtain ⟨o, h⟩ := s.rel.dom b hb
      exact ⟨o, f b o q h⟩
  refine ⟨⟨s.rel.len, s.rel.nd, s.rel.sub, dom, fun n b d z1 z2 => (s.rel.cont n b d z1 z2).keep k fun o h => f b o (fun q => am (q ▸ List.mem_of_getElem? z1)) h⟩, ⟨by simp [s.len], fun j z ez => ?_⟩, by simp [s.len], s.sub, s.mem, ?_,
    fun j z b e2 e3 => ?_, fun j l z w b ne e2 e3 e4 e5 => ?_, fun v d h => Rep.keep k d v (s.held v d h)⟩
  · by_cases hj : i = j
    · subst hj
      rw [List.getElem?_set_self hi] at ez; cases ez
      exact ⟨_, e1, a, rfl, ma, am, c⟩
    · rw [List.getElem?_set_ne hj] at ez
      obtain ⟨w, h1, h2⟩ := s.er.2 j z ez
      refine ⟨w, h1, ?_⟩
      cases z with
      | d z => exact Rep.keep k z w h2
      | own z =>
        obtain ⟨b, eb, h3, h4, h5⟩ := h2
        subst eb
        exact ⟨b, rfl, h3, h4, h5.keep k fun o h => f b o (fun q => s.sep i j x z a hj e ez e1 (q ▸ h1)) h⟩
      | bor z => exact h2.elim
      | ref n => exact h2
  · exact fun b o h n => f b o (fun q => by rw [q, (s.own i x a e e1).1] at h; cases h) (s.fr b o h n)
  · by_cases hj : i = j
    · subst hj
      rw [e1] at e3
      have e' : a = b := by simpa using e3
      subst e'
      exact s.own _ _ _ e e1
    · rw [List.getElem?_set_ne hj] at e2
      exact s.own j z b e2 e3
  · have get : ∀ (j : Nat) (z : D), (env.set i (some (.own y)))[j]? = some (some (.own z)) → ∃ z', env[j]? = some (some (.own z')) := fun j z ez => by
      by_cases hj : i = j
      · subst hj; exact ⟨_, e⟩
      · rw [List.getElem?_set_ne hj] at ez
        exact ⟨_, ez⟩
    obtain ⟨z', h1⟩ := get j z e2
    obtain ⟨w', h2⟩ := get l w e3
    exact s.sep j l z' w' b ne h1 h2 e4 e5
end

/-! ### blocks -/
def sSeq (s t : Sx) : Sx := fun env ph => (s env ph).bind t
def sNx : Sx := fun env ph => .nx env ph
section
variable {W : WX} {st : Stmt} {rest : List Stmt} {x y : Sx} {e : Expr} {xe : Ex} {pos : Pos}
theorem PostS.seq {M0 H0 hd m D} {o : Out} {t : Sx} (q : PostS X W M0 H0 hd m D (o.bind t)) (N : L2.St → Hp → Prop) (hN : ∀ env ph, PostS X W M0 H0 hd m D (t env ph) → ∀ M σ H, StR (kx X) M0 H0 hd M m σ H env ph → N σ H) : PostS X W M0 H0 hd m { D with nx := N } o := by
  cases o with
  | nx env ph => exact hN env ph q
  | _ => exact q
theorem b_nil : SB X W [] sNx := ⟨fun M0 H0 hd M m σ H env ph s D q => tWB_of pss_nil (q M σ H s)⟩
theorem b_cons (h : SS X W st x) (hs : SB X W rest y) : SB X W (st :: rest) (sSeq x y) := ⟨fun M0 H0 hd M m σ H env ph s D q => tWB_of (pss_cons tWS_ps tWB_ps)
  (h.run M0 H0 hd M m σ H env ph s _ (PostS.seq q _ fun env ph q M σ H s => hs.run M0 H0 hd M m σ H env ph s D q))⟩
theorem b_one (h : SS X W st x) : SB X W [st] x := ⟨fun M0 H0 hd M m σ H env ph s D q => tWB_of (pss_one tWS_ps) (h.run M0 H0 hd M m σ H env ph s D q)⟩
def sBk : Sx := fun env ph => .bk env ph
def sCt : Sx := fun env ph => .ct env ph
theorem st_pass : SS X W (.Pass pos) sNx := ⟨fun M0 H0 hd M m σ H env ph s D q => tWS_of ps_pass (q M σ H s)⟩
theorem st_break : SS X W (.Break pos) sBk := ⟨fun M0 H0 hd M m σ H env ph s D q => tWS_of ps_break (q M σ H s)⟩
theorem st_continue : SS X W (.Continue pos) sCt := ⟨fun M0 H0 hd M m σ H env ph s D q => tWS_of ps_continue (q M σ H s)⟩
theorem st_doc {x : Str} {j : Nat} {pos' : Pos} : SS X W (.Expr (.Constant (.str x) j pos) pos') sNx := ⟨fun M0 H0 hd M m σ H env ph s D q => tWS_of ps_doc (q M σ H s)⟩
def sBad : Sx := fun _ _ => .bad
theorem st_never : SS X W st sBad := ⟨fun M0 H0 hd M m σ H env ph s D q => q.elim⟩
/-- an expression whose value is dropped -/
def sDrop (x : Ex) : Sx := fun env ph => (x env ph).bindS env fun _ ph1 => .nx env ph1
theorem st_drop (h : SE X W e xe) (hs : swapsWith e none pos.line X.env = pure false := by rfl) : SS X W (.Expr e pos) (sDrop xe) := ⟨fun M0 H0 hd M m σ H env ph s D q => tWS_of (ps_expr tW_pe hs)
  (h.bindS s q fun val ph1 v H1 fr s1 rv ro q1 => q1 M σ H1 s1)⟩
/-- return e -/
def retV : Val → Option Val
  | .d x => some (.d x)
  | .own x => some (.own x)
  | _ => none
def sRet (x : Ex) : Sx := fun env ph => (x env ph).bindS env fun v ph1 => match retV v with
  | some w => .ret w ph1
  | none => .bad
theorem Rel.anti {K M M' m H ph} (r : Rel K M m H ph) (k : ∀ a, M' a → M a) (sub : ∀ a ∈ m, M' a) : Rel K M' m H ph := ⟨r.len, r.nd, sub, fun a z => r.dom a (k a z), fun n a d e1 e2 => (r.cont n a d e1 e2).anti k⟩
theorem st_ret (h : SE X W e xe) : SS X W (.Return (some e) pos) (sRet xe) := ⟨fun M0 H0 hd M m σ H env ph s D q => tWS_of (ps_ret tW_pe)
  (h.bindS s q fun val ph1 v H1 fr s1 rv ro q1 => by
    have r0 := s1.rel.anti s1.sub s1.mem
    cases val with
    | d x => exact q1 v H1 s1.fr r0 (Rep.anti s1.sub x v rv) RO.d
    | own x =>
      obtain ⟨a, rfl, h1, h2, h3⟩ := rv
      obtain ⟨ra, ca⟩ := ro x rfl a rfl
      have k : ∀ b, MAdd M0 a b → MAdd M a b := fun b z => z.imp (s1.sub b) id
      refine q1 _ H1 s1.fr r0 ⟨a, rfl, s.fr.back s.rel h1, fun z => h2 (s1.sub a z), h3.anti s1.sub⟩ fun d e b eb => ?_
      cases e; cases eb
      exact ⟨ra.anti k fun b z => .inl (s1.mem b z), ca.anti k⟩
    | bor x => exact q1.elim
    | ref n => exact q1.elim)⟩
def sRetN : Sx := fun _ ph => .ret (.d .non) ph
theorem st_retN : SS X W (.Return none pos) sRetN := ⟨fun M0 H0 hd M m σ H env ph s D q => tWS_of ps_retN (q .non H s.fr (s.rel.anti s.sub s.mem) (by rw [RV, Rep]) RO.d)⟩
/-- if -/
def sIf (t : Tx) (x y : Sx) : Sx := fun env ph => (t env ph).bindS env fun b ph1 => if b = true then x env ph1 else y env ph1
theorem st_if {c : Expr} {t : Tx} {a b : List Stmt} (hc : ST X W c t) (ha : SB X W a x) (hb : SB X W b y) : SS X W (.If c a b pos) (sIf t x y) := ⟨fun M0 H0 hd M m σ H env ph s D q => tWS_of (ps_if tWT_pt tWB_ps tWB_ps)
  (hc.bindS s q fun c ph1 H1 fr s1 q1 => by
    cases c with
    | true => exact ha.run M0 H0 hd M m σ H1 env ph1 s1 D q1
    | false => exact hb.run M0 H0 hd M m σ H1 env ph1 s1 D q1)⟩
/-- name = e: data; a list that the name alone holds -/
def sSet (i : Nat) (x : Ex) : Sx := fun env ph => (x env ph).bindS env fun v ph1 => match v.dat with
  | some d => .nx (env.set i (some (.d d))) ph1
  | none => .bad
def sOwn (i : Nat) (x : Ex) : Sx := fun env ph => (x env ph).bindS env fun v ph1 => match v with
  | .own d => .nx (env.set i (some (.own d))) ph1
  | _ => .bad
theorem set_core {i : Nat} (h : SE X W e xe) {M0 H0 hd M m σ H env ph} (s : StR (kx X) M0 H0 hd M m σ H env ph) {D : Ends} (q : PostS X W M0 H0 hd m D (sSet i xe env ph)) : tW X e σ H fun x H1 => gName i x σ H1 D.nx :=
  h.bindS s q fun val ph1 v H1 fr s1 rv ro q1 => by
    split at q1
    · rename_i d ed
      exact q1 M _ H1 (s1.setD (rv.dat ed))
    · exact q1.elim
theorem own_core {i : Nat} (h : SE X W e xe) {M0 H0 hd M m σ H env ph} (s : StR (kx X) M0 H0 hd M m σ H env ph) {D : Ends} (q : PostS X W M0 H0 hd m D (sOwn i xe env ph)) : tW X e σ H fun x H1 => gName i x σ H1 D.nx :=
  h.bindS s q fun val ph1 v H1 fr s1 rv ro q1 => by
    cases val with
    | own d =>
      obtain ⟨a, rfl, h1, h2, h3⟩ := rv
      obtain ⟨ra, ca⟩ := ro d rfl a rfl
      exact q1 _ _ H1 (s.setOwn fr ra ca h1 h2)
    | _ => exact q1.elim
variable {i : Nat} {n : Str} {pos' : Pos}
theorem st_set (hN : X.N.Nodup) (hi : X.N[i]? = some n) (hx : Loc X.env.scope n) (h : SE X W e xe) (hs : swapsWith e (some (.Name n pos')) pos.line X.env = pure false := by rfl) (hf : X.fn n = true ∨ X.env.scope.names.lookup n = some .local := by first | exact .inl rfl | exact .inr rfl | assumption) :
    SS X W (.Assign [.Name n pos'] e pos) (sSet i xe) := ⟨fun M0 H0 hd M m σ H env ph s D q => tWS_of (ps_set hN hi hx tW_pe hs hf) (set_core h s q)⟩
theorem st_own (hN : X.N.Nodup) (hi : X.N[i]? = some n) (hx : Loc X.env.scope n) (h : SE X W e xe) (hs : swapsWith e (some (.Name n pos')) pos.line X.env = pure false := by rfl) (hf : X.fn n = true ∨ X.env.scope.names.lookup n = some .local := by first | exact .inl rfl | exact .inr rfl | assumption) :
    SS X W (.Assign [.Name n pos'] e pos) (sOwn i xe) := ⟨fun M0 H0 hd M m σ H env ph s D q => tWS_of (ps_set hN hi hx tW_pe hs hf) (own_core h s q)⟩
/-- ahead of a statement: a local list becomes data -/
def sFrz (i : Nat) (s : Sx) : Sx := fun env ph => match env[i]? with
  | some (some (.own x)) => s (env.set i (some (.d x))) ph
  | _ => .bad
theorem st_frz (i : Nat) (h : SS X W st x) : SS X W st (sFrz i x) := ⟨fun M0 H0 hd M m σ H env ph s D q => by
  unfold sFrz at q
  split at q
  · rename_i y e
    obtain ⟨M', s'⟩ := s.frz e
    exact h.run M0 H0 hd M' m σ H _ ph s' D q
  · exact q.elim⟩
/-- while, at most so many turns -/
def sWhile (t : Tx) (b : Sx) : Nat → Sx
  | 0 => fun _ _ => .bad
  | n + 1 => fun env ph => (t env ph).bindS env fun c ph1 => if c = true then (match b env ph1 with
    | .nx env2 ph2 => sWhile t b n env2 ph2
    | .ct env2 ph2 => sWhile t b n env2 ph2
    | .bk env2 ph2 => .nx env2 ph2
    | o => o) else .nx env ph1
theorem st_while {c : Expr} {body : List Stmt} {t : Tx} {b : Sx} (n : Nat) (hp : PassesOwn (model X.prog X.w) X.A X.env X.xe) (hc : ST X W c t) (hb : SB X W body b) : SS X W (.While c body [] pos) (sWhile t b n) := ⟨fun M0 H0 hd M m σ H env ph s D q => tWS_of (ps_while hp tWT_pt tWB_ps) (by
  refine ⟨fun k σ H => ∃ M env ph, StR (kx X) M0 H0 hd M m σ H env ph ∧ PostS X W M0 H0 hd m D (sWhile t b k env ph), ⟨n, M, env, ph, s, q⟩, ?_⟩
  rintro k σ1 H1 ⟨M1, env1, ph1, s1, q1⟩
  cases k with
  | zero => exact q1.elim
  | succ k =>
    refine hc.bindS s1 q1 fun c ph2 H2 fr s2 q2 => ?_
    cases c with
    | false => exact q2 M1 σ1 H2 s2
    | true =>
      rw [if_pos rfl]
      refine ⟨fun σ H => ∃ M env ph, StR (kx X) M0 H0 hd M m σ H env ph ∧ PostS X W M0 H0 hd m D (sWhile t b k env ph), fun σ' H' h => ⟨k, Nat.lt_succ_self k, h⟩, ?_⟩
      refine hb.run M0 H0 hd M1 m σ1 H2 env1 ph2 s2 _ ?_
      have q3 : PostS X W M0 H0 hd m D (match b env1 ph2 with
        | .nx env2 ph2 => sWhile t b k env2 ph2
        | .ct env2 ph2 => sWhile t b k env2 ph2
        | .bk env2 ph2 => .nx env2 ph2
        | o => o) := q2
      cases hbo : b env1 ph2 with
      | nx env2 ph3 => rw [hbo] at q3; exact fun M' σ' H' s' => ⟨M', env2, ph3, s', q3⟩
      | ct env2 ph3 => rw [hbo] at q3; exact fun M' σ' H' s' => ⟨M', env2, ph3, s', q3⟩
      | bk env2 ph3 => rw [hbo] at q3; exact q3
      | ret v ph3 => rw [hbo] at q3; exact q3
      | exc c fs env2 ph3 => rw [hbo] at q3; exact q3
      | bad => rw [hbo] at q3; exact q3)⟩
end

/-! ### defs and calls -/
abbrev Fn := List Val → PH → Res Val
/-- what is handed to a def: data, cells by name -/
def argOf : Val → Option Val
  | .d x => some (.d x)
  | .own x => some (.d x)
  | .ref n => some (.ref n)
  | .bor _ => none
def argsOf : List Val → Option (List Val)
  | [] => some []
  | x :: xs => match argOf x, argsOf xs with
    | some y, some ys => some (y :: ys)
    | _, _ => none
def IsArg : Val → Prop
  | .d _ => True
  | .ref _ => True
  | _ => False
theorem RV.arg {K M m H0 H v y} : ∀ {x : Val}, RV K M m H0 H v x → argOf x = some y → IsArg y ∧ ∀ H1, RV K M m H1 H v y
  | .d x, h, e => by cases e; exact ⟨trivial, fun _ => h⟩
  | .own x, ⟨a, e1, n, nm, c⟩, e => by cases e; subst e1; exact ⟨trivial, fun _ => c.rep nm⟩
  | .bor x, h, e => by cases e
  | .ref n, h, e => by cases e; exact ⟨trivial, fun _ => h⟩
theorem RVs.args {K M m H0 H} : ∀ {xs ys : List Val} {vs : List V}, RVs K M m H0 H vs xs → argsOf xs = some ys → (∀ y ∈ ys, IsArg y) ∧ ∀ H1, RVs K M m H1 H vs ys
  | [], ys, vs, h, e => by
    cases e
    exact ⟨fun _ z => absurd z (by simp), fun _ => h⟩
  | x :: xs, ys, vs, ⟨w, ws, e1, h1, h2⟩, e => by
    rw [argsOf] at e
    split at e
    · rename_i y ys' q1 q2
      cases e
      obtain ⟨a1, a2⟩ := h1.arg q1
      obtain ⟨b1, b2⟩ := RVs.args h2 q2
      exact ⟨fun z hz => (List.mem_cons.mp hz).elim (fun q => q ▸ a1) (b1 z), fun H1 => ⟨w, ws, e1, a2 H1, b2 H1⟩⟩
    · cases e
/-- a def's promise: it does as the function -/
def spF (mg : Str → Option Value) (K : Kx) (n : Nat) (f : Fn) : Sp := fun vs H Q E => vs.length = n ∧ ∃ M m ph args, Rel K M m H ph ∧ (∀ y ∈ args, IsArg y) ∧ RVs K M m H H vs args ∧ match f args ph with
  | .ok x ph' => ∀ v H', Frame m H H' → Rel K M m H' ph' → RV K M m H H' v x → RO K M m H' ph' v x → Q v H'
  | .exc c fs ph' => ∀ cls d H', Frame m H H' → Rel K M m H' ph' → ExR mg K M H' c fs cls d → E cls d H'
  | .bad => False
/-- values of keywords in the parameters' order -/
def pick {α : Type} (perm : List Nat) (l : List α) : List α := perm.filterMap fun i => l[i]?
/-- how keywords alone bind: their names, the order -/
def KW (fd : FuncData) (ps ks : List Str) (perm : List Nat) : Prop := ∀ ws : List Value, ws.length = ks.length → bindArgs fd ⟨[], ks.zip ws⟩ = pure (ps.zip (pick perm ws))
/-- a def, and the orders of keywords in which it is called -/
structure FnAt (P : Program) (w : World) (K : PySem.W.Frag) (mg : Str → Option Value) (base : Heap) (k : Nat) (name : Str) (n : Nat) (f : Fn) (kws : List (List Str × List Nat) := []) : Prop where
  ex : ∃ (a : Addr) (fd : FuncData) (ps : List Str), FnOk P w K mg base (L2.CX P w) k a fd ps (spF mg ⟨K, w⟩ n f) ∧ mg name = some (.ref a) ∧ PySem.W.keepIn K (.ref a) = true ∧ Binds K fd ps [] ∧ ∀ q ∈ kws, KW fd ps q.1 q.2
theorem FnAt.mono {P w K mg base j k name n f kws} (h : FnAt P w K mg base j name n f kws) (l : j ≤ k) : FnAt P w K mg base k name n f kws := let ⟨a, fd, ps, h1, h2⟩ := h.ex; ⟨⟨a, fd, ps, h1.mono l, h2⟩⟩
def runF (n : Nat) (body : Sx) : Fn := fun args ph => match body (args.map some ++ List.replicate (n - args.length) none) ph with
  | .ret v ph' => .ok v ph'
  | .nx _ ph' => .ok (.d .non) ph'
  | .exc c fs _ ph' => .exc c fs ph'
  | _ => .bad
theorem start_rel {K M m H N} {vs : List V} {args : List Val} (r : RVs K M m H H vs args) (ia : ∀ y ∈ args, IsArg y) : EnvR K M m (L2.start N vs) H (args.map some ++ List.replicate (N.length - args.length) none) ∧ ∀ (i : Nat) (x : D), (args.map some ++ List.replicate (N.length - args.length) none)[i]? ≠ some (some (.own x)) := by
  have get : ∀ {args : List Val} {vs : List V} {i : Nat} {x : Val}, RVs K M m H H vs args → args[i]? = some x → ∃ v, vs[i]? = some v ∧ RV K M m H H v x := by
    intro args
    induction args with
    | nil => intro vs i x _ e; simp at e
    | cons y ys ih =>
      rintro vs i x ⟨w, ws, rfl, h1, h2⟩ e
      cases i with
      | zero => simp at e; subst e; exact ⟨w, rfl, h1⟩
      | succ i => obtain ⟨v, e1, e2⟩ := ih h2 (by simpa using e); exact ⟨v, by simpa using e1, e2⟩
  have at_ : ∀ (i : Nat) (x : Val), (args.map some ++ List.replicate (N.length - args.length) none)[i]? = some (some x) → args[i]? = some x := fun i x e => by
    by_cases hi : i < args.length
    · rw [List.getElem?_append_left (by simpa using hi), List.getElem?_map] at e
      cases q : args[i]? with
      | none => rw [q] at e; cases e
      | some a => rw [q] at e; simpa using e
    · rw [List.getElem?_append_right (by simpa using hi), List.getElem?_replicate] at e
      split at e <;> cases e
  refine ⟨⟨by unfold L2.start; simp [r.length], fun i x e => ?_⟩, fun i x e => ?_⟩
  · have ea := at_ i x e
    obtain ⟨v, e1, e2⟩ := get r ea
    have hi : i < vs.length := (List.getElem?_eq_some_iff.mp e1).1
    refine ⟨v, ?_, ?_⟩
    · unfold L2.start
      rw [List.getElem?_append_left (by simpa using hi), List.getElem?_map, e1]; rfl
    · have := ia x (List.mem_of_getElem? ea)
      cases x with
      | d x => exact e2
      | own x => exact this.elim
      | bor x => exact this.elim
      | ref n => exact e2
  · have := ia _ (List.mem_of_getElem? (at_ i _ e))
    exact this.elim
/-- a def of the text by its body -/
theorem fn_at {P : Program} {w : World} {K : PySem.W.Frag} {mg : Str → Option Value} {base : Heap} {x qual : Str} {st : Stmt} {f : Addr} {fd : FuncData} {N ps : List Str} {k : Nat} {body : Sx} (F : Fun K x qual st f fd) (S : FnScope N ps (defScope st)) (hm : mg x = some (.ref f)) (hb : Binds K fd ps []) {kws : List (List Str × List Nat)} (hkw : ∀ q ∈ kws, KW fd ps q.1 q.2)
    (hbody : ∀ (cdv : Value) (A : Around) (outer : List PySem.Env) (s : Shared) (H : Hp) (E : XK), Room k (A.deeper (PyProof.Rows.envOfC qual (defScope st) s.heap.objs.size f cdv)) →
      SB (cxOf (L2.CX P w) P w K mg base N qual (defScope st) f cdv A outer s H E) (fun cls d _ H => E cls d H) (defBody st) body) : FnAt P w K mg base (k + 1) x ps.length (runF N.length body) kws := by
  refine ⟨f, fd, ps, F.okX S (fun vs H Q E h => h.1) (fun cdv A outer s H vs Q E hr h => ?_), hm, F.kp, hb, hkw⟩
  obtain ⟨hl, M, m, ph, args, r, ia, rv, q⟩ := h
  obtain ⟨er, no⟩ := start_rel (N := N) rv ia
  have la := rv.length
  refine ⟨_, tWB_ps, (hbody cdv A outer s H E hr).run M H (fun _ _ => False) M m _ H (args.map some ++ List.replicate (N.length - args.length) none) ph ⟨r, er, by unfold L2.start; simp [la], fun _ z => z, r.sub, Frame.refl, fun i x a e => absurd e (no i x), fun i j x y a _ e => absurd e (no i x), fun _ _ z => z.elim⟩ _ ?_⟩
  have q : match runF N.length body args ph with
    | .ok x ph' => ∀ v H', Frame m H H' → Rel ⟨K, w⟩ M m H' ph' → RV ⟨K, w⟩ M m H H' v x → RO ⟨K, w⟩ M m H' ph' v x → Q v H'
    | .exc c fs ph' => ∀ cls d H', Frame m H H' → Rel ⟨K, w⟩ M m H' ph' → ExR mg ⟨K, w⟩ M H' c fs cls d → E cls d H'
    | .bad => False := q
  unfold runF at q
  cases hb : body (args.map some ++ List.replicate (N.length - args.length) none) ph with
  | ret v ph' => rw [hb] at q; exact q
  | nx env' ph' => rw [hb] at q; exact fun M' σ' H' s' => q .non H' s'.fr (s'.rel.anti s'.sub s'.mem) (by rw [RV, Rep]) RO.d
  | exc c fs env' ph' =>
    rw [hb] at q
    refine fun M' σ' H' cls d s' ex => q cls d H' s'.fr (s'.rel.anti s'.sub s'.mem) ?_
    obtain ⟨C, e1, e2, e3⟩ := ex
    refine ⟨C, e1, e2, ?_⟩
    cases fs with
    | nil => exact e3
    | cons p t => obtain ⟨dd, v, z1, z2, z3⟩ := e3; exact ⟨dd, v, z1, z2, Rep.anti s'.sub _ _ z3⟩
  | bk env' ph' => rw [hb] at q; exact q.elim
  | ct env' ph' => rw [hb] at q; exact q.elim
  | bad => rw [hb] at q; exact q.elim

def eCall (f : Fn) (xs : Ax) : Ex := fun env ph => (xs env ph).bind fun vs ph1 => match argsOf vs with
  | some as => f as ph1
  | none => .bad
section
variable {W : WX} {k : Nat} {name : Str} {f : Fn} {e : Expr} {es : List Expr} {xs : Ax} {p pos : Pos} {nn : Nat}
theorem call_core {M : Addr → Prop} {m : List Addr} {σ : L2.St} {H H1 : Hp} {ph1 : PH} {vals as : List Val} {vs : List V} {Q : VK} (tk : Takes X W) (hl : vs.length = nn) (fr : Frame m H H1) (r1 : Rel (kx X) M m H1 ph1) (rv : RVs (kx X) M m H H1 vs vals) (ea : argsOf vals = some as) (q : Post X W M m σ H1 (GE X M m H Q) (f as ph1)) :
    spF X.mg (kx X) nn f vs H1 Q (WE W σ) := by
  obtain ⟨ia, ra⟩ := rv.args ea
  refine ⟨hl, M, m, ph1, as, r1, ia, ra H1, ?_⟩
  cases hf : f as ph1 with
  | ok x ph' => rw [hf] at q; exact GE.at fr r1 q
  | exc c fs ph' => rw [hf] at q; exact q
  | bad => rw [hf] at q; exact q
theorem s_call {kws : List (List Str × List Nat)} (F : FnAt X.prog X.w X.K X.mg X.base k name nn f kws) (hr : Room k X.A) (tk : Takes X W) (ha : SA X W (e :: es) xs) (hn : (e :: es).length = nn := by rfl) (hg : Gl X name := by rfl) (hdb : (name == ("__debug__" : Str)) = false := by decide)
    (he : starEach (e :: es) X.env = (false, eval e X.env) :: starEach es X.env := by rfl) (hpl : (backTo pos (starEach es X.env)).any (·.1) = false := by rfl) (hlen : ∀ env ph vals ph', xs env ph = .ok vals ph' → vals.length = (e :: es).length) : SE X W (.Call (.Name name p) (e :: es) [] pos) (eCall f xs) := by
  obtain ⟨a, fd, ps, FO, hm, hk, hb, _⟩ := F.ex
  refine ⟨fun M m σ H env ph r er Q q => tW_of (pe_callS FO hr hg hm hk hb (fun σ => passAt tk σ) tWA_pa hdb he hpl) ?_⟩
  have q' : Post X W M m σ H (GE X M m H Q) ((xs env ph).bind fun vs ph1 => match argsOf vs with
    | some as => f as ph1
    | none => .bad) := q
  cases hx : xs env ph with
  | bad => rw [hx] at q'; exact q'.elim
  | exc c fs ph1 => rw [hx] at q'; refine ha.run M m σ H env ph r er _ ?_; rw [hx]; exact q'
  | ok vals ph1 =>
    rw [hx] at q'
    refine ha.run M m σ H env ph r er _ ?_
    rw [hx]
    intro vs H1 fr r1 rv
    have q2 : Post X W M m σ H (GE X M m H Q) (match argsOf vals with
      | some as => f as ph1
      | none => .bad) := q'
    split at q2
    · rename_i as ea
      exact call_core tk (by rw [rv.length, hlen env ph vals ph1 hx]; exact hn) fr r1 rv ea (Post.step fr q2)
    · exact q2.elim
theorem s_call0 {kws : List (List Str × List Nat)} (F : FnAt X.prog X.w X.K X.mg X.base k name 0 f kws) (hr : Room k X.A) (tk : Takes X W) (hg : Gl X name := by rfl) (hdb : (name == ("__debug__" : Str)) = false := by decide) : SE X W (.Call (.Name name p) [] [] pos) (fun _ ph => f [] ph) := by
  obtain ⟨a, fd, ps, FO, hm, hk, hb, _⟩ := F.ex
  refine ⟨fun M m σ H env ph r er Q q pins s I => ?_⟩
  refine wpAny_Call_Name_kw (ld_glob I hg hm ?_ hdb)
  exact PySem.W.callWith_K0 I.kIn hk (run_fnS (us := []) (E := WE W) FO hr hb (passAt tk σ) I .nil (call_core (vals := []) tk rfl Frame.refl r rfl rfl q))
/-- the length of a row -/
theorem len_nil : ∀ env ph vals ph', aNil env ph = .ok vals ph' → vals.length = ([] : List Expr).length := fun env ph vals ph' h => by cases h; rfl
theorem len_cons {x : Ex} {xs : Ax} {e : Expr} {es : List Expr} (h : ∀ env ph vals ph', xs env ph = .ok vals ph' → vals.length = es.length) : ∀ env ph vals ph', aCons x xs env ph = .ok vals ph' → vals.length = (e :: es).length := fun env ph vals ph' q => by
  unfold aCons at q
  cases hx : x env ph with
  | ok v ph1 =>
    rw [hx, Res.bind_ok] at q
    cases hxs : xs env ph1 with
    | ok vs ph2 =>
      rw [hxs, Res.bind_ok] at q
      cases q
      simp [h env ph1 vs _ hxs]
    | exc c fs ph2 => rw [hxs] at q; cases q
    | bad => rw [hxs] at q; cases q
  | exc c fs ph1 => rw [hx] at q; cases q
  | bad => rw [hx] at q; cases q
end
end Pyp

/-! What is walked: lists and tuples, one or two, with places. -/
namespace Pyp
open PySem PySem.Spec PyProof.Rows L2

/-- enumerate(v) begins, v anything that is walked -/
theorem meets_enumB {v : Value} {o : Obj} {H1 : Heap → Prop} (B : Begins v o H1) :
    Meets (Builtin.«enumerate.__new__» ⟨[.type "enumerate", v], []⟩) (fun _ R s => H1 s.heap ∧
      R (.ok (.ret (.ref (s.heap.push o).objs.size)))
        { s with heap := (s.heap.push o).push { cls := .type "enumerate", data := .fields #[.none, .bool false, .ref s.heap.objs.size, rawInt 0, .none, .none] } }) :=
  .of_wp fun prog w A R s h => by
    obtain ⟨hp, g, d, tk, os⟩ := s
    obtain ⟨h1, h⟩ := h
    have hsub := sub_enumerate
    have q1 : ∀ {A' : Around} {E : Value → Shared → Prop} {Q : Value → Shared → Prop}, Q (.ref hp.objs.size) ⟨hp.push o, g, d, tk, os⟩ → wpAny (model prog w) A' (pyIter v) Q E ⟨hp, g, d, tk, os⟩ :=
      fun q => B.iter prog w _ _ ⟨hp, g, d, tk, os⟩ _ h1 q
    wp_walk
    refine wpAny_stack_any fun st => wpAny_pure ?_
    split
    · rename_i c _ _ _ _ _
      cases (c == Value.type "enumerate")
      · wp_walk using q1
        exact ⟨_, rfl, h⟩
      · wp_walk using q1
        exact ⟨_, rfl, h⟩
    · wp_walk using q1
      exact ⟨_, rfl, h⟩
theorem enum_begins {prog : Program} {w : World} {A : Around} {E : Value → Shared → Prop} {s : Shared} {v : Value} {o : Obj} {H1 : Heap → Prop} {Q : Value → Shared → Prop} (B : Begins v o H1) (h1 : H1 s.heap)
    (h : ∀ h', IsEnum h' (s.heap.objs.size + 1) s.heap.objs.size 0 .none → h'.get? s.heap.objs.size = some o → h'.objs.size = s.heap.objs.size + 2 →
      (∀ b o, s.heap.get? b = some o → h'.get? b = some o) → Q (.ref (s.heap.objs.size + 1)) { s with heap := h' }) :
    wpAny (model prog w) A (call (.type "enumerate") [v]) Q E s := by
  refine callType_new F.called_enumerate (by decide) (F.typeCall_enumerate_1 _) (F.newCall_enumerate_1 _) (fun obj => F.args_object_init_2 obj _) F.entry_enumerate_new
    (meets_enumB B) ⟨h1, ?_⟩
  have hz : (s.heap.push o).objs.size = s.heap.objs.size + 1 := Heap.size_push ..
  show _ ∧ _
  rw [hz]
  have he : IsEnum ((s.heap.push o).push { cls := .type "enumerate", data := .fields #[.none, .bool false, .ref s.heap.objs.size, rawInt 0, .none, .none] }) (s.heap.objs.size + 1) s.heap.objs.size 0 .none := by
    have := Heap.get?_push_size (s.heap.push o) (o := { cls := .type "enumerate", data := .fields #[.none, .bool false, .ref s.heap.objs.size, rawInt 0, .none, .none] }) rfl
    rw [hz] at this; exact this
  exact ⟨⟨_, he, rfl⟩, h _ he (Heap.get?_push_of_some _ (Heap.get?_push_size _ B.free)) (by rw [Heap.size_push, hz]) fun b o x => Heap.get?_push_of_some _ (Heap.get?_push_of_some _ x)⟩

/-! ### list or tuple: t says which -/
def Sq (t : Bool) (K : PySem.W.Frag) (H : Hp) (a : Addr) (xs : List V) : Prop := if t = true then SqT K H a xs else SqL K H a xs
def SeqIs (t : Bool) (h : Heap) (a : Addr) (its : Array Value) : Prop := if t = true then h.IsTuple a its else h.IsList a its
def ItS (t : Bool) (h : Heap) (it a : Addr) (i : Nat) : Prop := if t = true then h.IsTupleIter it a i else h.IsListIter it a i
def itO (t : Bool) (a : Addr) : Obj := if t = true then { cls := .type "tuple_iterator", data := .fields #[.ref a, .int 0 0] } else { cls := .type "list_iterator", data := .fields #[.ref a, .int 0 0] }
theorem begins_seq (t : Bool) (a : Addr) (its : Array Value) : Begins (.ref a) (itO t a) fun h => SeqIs t h a its := by
  cases t with
  | true => exact begins_tuple a its
  | false => exact begins_list a its
theorem draws_seq {prog : Program} {w : World} {A : Around} (hh : A.handled = none) (t : Bool) (it a : Addr) (hne : a ≠ it) (its : Array Value) :
    Draws prog w A it [it, a] its.size (fun i v => its[i]? = some v) (fun i h => ItS t h it a i ∧ SeqIs t h a its) := by
  cases t with
  | true => exact Draws.tuple hh it a hne its
  | false => exact Draws.list hh it a hne its
theorem ItS.start {t : Bool} {h : Heap} {it a : Addr} (e : h.get? it = some (itO t a)) : ItS t h it a 0 := by
  cases t with
  | true => exact ⟨_, e, rfl, rfl⟩
  | false => exact ⟨_, e, rfl, rfl⟩
theorem ItS.obj {t : Bool} {h : Heap} {it a : Addr} {i : Nat} (e : ItS t h it a i) : ∃ o, h.get? it = some o ∧ ∀ v, o.data ≠ .cell v := by
  cases t with
  | true => obtain ⟨o, h1, _, h2⟩ := (show h.IsTupleIter it a i from e); exact ⟨o, h1, fun v z => by rw [h2] at z; cases z⟩
  | false => obtain ⟨o, h1, _, h2⟩ := (show h.IsListIter it a i from e); exact ⟨o, h1, fun v z => by rw [h2] at z; cases z⟩
theorem ItS.at {t : Bool} {h h' : Heap} {it a : Addr} {i : Nat} (e : ItS t h it a i) (k : ∀ o, h.get? it = some o → h'.get? it = some o) : ItS t h' it a i := by
  cases t with
  | true => exact Heap.IsTupleIter.at (show h.IsTupleIter it a i from e) k
  | false => exact Heap.IsListIter.at (show h.IsListIter it a i from e) k
section
variable {X : Cx} {pins : List (Addr × Obj)} {σ : L2.St} {H : Hp} {s : Shared} {a : Addr} {xs ys : List V} {t : Bool}
theorem inv_seq (I : Inv X pins σ H s) (h : Sq t X.K H a xs) : ∃ its : List Value, Vals xs its ∧ SeqIs t s.heap a its.toArray ∧ a < s.heap.objs.size := by
  cases t with
  | true =>
    obtain ⟨its, r, p, _⟩ := I.tuple (show SqT X.K H a xs from h)
    obtain ⟨o, e, _⟩ := id p
    exact ⟨its, r, p, Heap.lt_size e⟩
  | false =>
    obtain ⟨its, r, p, _⟩ := I.list (show SqL X.K H a xs from h)
    exact ⟨its, r, p.isList, p.lt⟩
theorem seq_inj (I : Inv X pins σ H s) (h : Sq t X.K H a xs) (h' : Sq t X.K H a ys) : xs = ys := by
  cases t with
  | true => exact I.tuple_inj (show SqT X.K H a xs from h) (show SqT X.K H a ys from h')
  | false => exact I.list_inj (show SqL X.K H a xs from h) (show SqL X.K H a ys from h')
end

/-! ### one -/
def ItO (t : Bool) (K : PySem.W.Frag) (a : Addr) : It := if t = true then Itt K a else Itl K a
def iSeq (K : PySem.W.Frag) (tl : TE) : TI := fun σ H R => tl σ H fun x H1 => ∃ t a, x = .ref a ∧ (∃ xs, Sq t K H1 a xs) ∧ R (ItO t K a) H1
theorem pi_seq {X : Cx} {tg l : Expr} {tl : TE} (hl : PE X l tl) : PI X tg l (iSeq X.K tl) := by
  refine ⟨fun pins s σ H R I h => ?_⟩
  refine thn (hl.run pins s σ H _ I h) fun v s1 ⟨x, H1, I1, r1, q1⟩ => ?_
  obtain ⟨t, a, e, ⟨xs, hq⟩, q⟩ := q1
  subst e
  cases r1
  have fresh : ∀ b ∈ [s1.heap.objs.size], FpOk X pins H1 b := fun b hb => by
    have e : b = s1.heap.objs.size := by simpa using hb
    subst e
    exact I1.fpOk (Nat.le_refl _) (I1.hok.fresh (Nat.le_refl _))
  cases t with
  | true =>
    obtain ⟨its, rv, p, hz⟩ := I1.tuple (show SqT X.K H1 a xs from hq)
    refine wpAny_pyIter_tuple (show s1.heap.IsTuple a its.toArray from p) ?_
    exact ⟨s1.heap.objs.size, [s1.heap.objs.size], _, _, H1, rfl, I1.kept (t' := s1.toks) fun b o e => Heap.get?_push_of_some _ e, turn_tuple a _, ⟨_, Heap.get?_push_size _ rfl, rfl, rfl⟩, fresh, q⟩
  | false =>
    obtain ⟨its, rv, p, hz⟩ := I1.list (show SqL X.K H1 a xs from hq)
    refine wpAny_pyIter_list p.isList ?_
    exact ⟨s1.heap.objs.size, [s1.heap.objs.size], _, _, H1, rfl, I1.kept (t' := s1.toks) fun b o e => Heap.get?_push_of_some _ e, turn_list a _, ⟨_, Heap.get?_push_size _ rfl, rfl, rfl⟩, fresh, q⟩

/-! ### enumerate -/
def ItE (t : Bool) (K : PySem.W.Frag) (a : Addr) : It :=
  ⟨fun i H => ∃ (xs : List V) (x : V), Sq t K H a xs ∧ xs[i]? = some x, fun i H v H' => ∃ T x, v = .ref T ∧ H T = none ∧ H' = upd H T (.tup [.int (i : Nat), x]) ∧ ∀ xs, Sq t K H a xs → xs[i]? = some x, fun i H => ∃ xs : List V, Sq t K H a xs ∧ xs.length = i⟩
theorem turn_enumS {P : Program} {w : World} {K : PySem.W.Frag} {elts : List Expr} {kk : Nat} {tpos : Pos} (t : Bool) (a e it : Addr) (hae : a ≠ e) (hai : a ≠ it) :
    Turn P w K (.Tuple elts kk tpos) (ItE t K a) [e, it] e (fun i h => (∃ old, IsEnum h e it ((i : Nat) : Int) old) ∧ ItS t h it a i ∧ e ≠ it) where
  mem := by simp
  obj := fun i h st b hb => by
    obtain ⟨⟨old, he⟩, hi, _⟩ := st
    have e' : b = e ∨ b = it := by simpa using hb
    rcases e' with z | z
    · rw [z]; exact ⟨_, he, fun v q => nomatch q⟩
    · rw [z]; exact hi.obj
  keep := fun i h h' st k => let ⟨⟨old, he⟩, hi, hne⟩ := st; ⟨⟨old, k e (by simp) _ he⟩, hi.at fun o q => k it (by simp) o q, hne⟩
  item := by
    intro X hP hw hK hc i pins s σ H E I hf st hg
    subst hP hw hK
    obtain ⟨⟨old, he⟩, hit, hne⟩ := st
    obtain ⟨xs, x, hq, hx⟩ := hg
    obtain ⟨its, rv, p, _⟩ := inv_seq I hq
    obtain ⟨u, hu, ru⟩ := rv.get hx
    have hel : e < s.heap.objs.size := Heap.lt_size he
    have hil : it < s.heap.objs.size := by obtain ⟨_, q, _⟩ := hit.obj; exact Heap.lt_size q
    have hlt : i < its.toArray.size := by simpa using (List.getElem?_eq_some_iff.mp hu).1
    have hef : e ∉ [it, a] := by simp only [List.mem_cons, List.not_mem_nil, or_false, not_or]; exact ⟨hne, fun q => hae q.symm⟩
    refine wpAny_pyNext_enum_itemD (draws_seq (A := X.A.in1) (I.ok.hd hc) t it a hai its.toArray) he ⟨hit, p⟩ hlt hne hef fun y h' tk hy ho hit' hT hsz hk => ?_
    have ey : y = u := by
      have h1 : its[i]? = some y := by simpa using hy
      rw [hu] at h1; exact (Option.some.inj h1).symm
    subst ey
    refine ⟨_, rfl, wpAny_letOwnedTupleGo_enum (s := { s with heap := h', toks := tk + 1 }) ho fun h'' he' sb => ?_⟩
    have hT2 : h''.get? s.heap.objs.size = some { cls := .type "tuple", data := .seq #[.int i tk, y] } := (sb.2 _ (Nat.ne_of_gt hel)).trans hT
    have new : ObjOk X.prog X.w (upd H s.heap.objs.size (.tup [.int (i : Nat), x])) h'' s.heap.objs.size (.tup [.int (i : Nat), x]) :=
      ⟨by show 2 ≤ sizeLine; decide, [.int i tk, y], .cons ⟨_, rfl⟩ (.cons ru .nil), ⟨_, hT2, rfl, _, rfl⟩⟩
    have I1 : Inv X pins σ (upd H s.heap.objs.size (.tup [.int (i : Nat), x])) { s with heap := h'', toks := tk + 1 } :=
      I.turnedNew (ch := [e, it]) (fun b ob hb q => (sb.2 b (fun z => hb (by simp [z]))).trans (hk b ob (fun z => hb (by simp [z])) (fun z => hb (by simp [z])) q)) hf (Nat.le_refl _) new
    refine ⟨.ref s.heap.objs.size, _, I1, rfl, ⟨_, x, rfl, I.hok.fresh (Nat.le_refl _), rfl, fun ys hy => by rw [seq_inj I hy hq]; exact hx⟩, ⟨⟨y, ?_⟩, hit'.1.at fun o q => (sb.2 it (Ne.symm hne)).trans q, hne⟩, fun b hb => ?_⟩
    · have e1 : ((i + 1 : Nat) : Int) = (i : Int) + 1 := by omega
      rw [e1]; exact he'
    · have hb' : b < s.heap.objs.size := by
        have e' : b = e ∨ b = it := by simpa using hb
        rcases e' with z | z
        · rw [z]; exact hel
        · rw [z]; exact hil
      rw [upd_ne (Nat.ne_of_lt hb')]
      exact (hf b hb).1
  done := by
    intro X hP hw hK hc i pins s σ H E I hf st hg
    subst hP hw hK
    obtain ⟨⟨old, he⟩, hit, hne⟩ := st
    obtain ⟨xs, hq, hx⟩ := hg
    obtain ⟨its, rv, p, _⟩ := inv_seq I hq
    obtain ⟨f0, f1, f2, f3, f4, f5⟩ := hf it (by simp)
    have hl := rv.length
    have hs : i = its.toArray.size := by simp; omega
    subst hs
    exact wpAny_pyNext_enum_endD (draws_seq (A := X.A.in1) (I.ok.hd hc) t it a hai its.toArray) he ⟨hit, p⟩ fun h' eb => ⟨rfl, I.turned (t' := s.toks) (fun b o hb q => eb b o hb q) f0 f1 f3 f4 f5⟩
  self := fun A i s Q E st h => let ⟨⟨_, he⟩, _⟩ := st; wpAny_pyIter_enum he h
def iEnumS (K : PySem.W.Frag) (ta : TA) : TI := fun σ H R => ta σ H fun vs H1 => ∃ t a xs, vs = [.ref a] ∧ Sq t K H1 a xs ∧ R (ItE t K a) H1
theorem pi_enumS {X : Cx} {e : Expr} {ta : TA} {p pos tpos : Pos} {elts : List Expr} {kk : Nat} (hg : Gl X "enumerate") (hm : X.mg "enumerate" = none) (ha : PA X [e] ta) (hs : starEach [e] X.env = [(false, eval e X.env)] := by rfl) :
    PI X (.Tuple elts kk tpos) (.Call (.Name "enumerate" p) [e] [] pos) (iEnumS X.K ta) := by
  refine ⟨fun pins s σ H R I h => ?_⟩
  refine Call_ (ld_blt I hg hm boot_enumerate (PyProof.Rows.callWith_type1 (thn (ha.run pos pins s σ H _ I h) fun us s1 ⟨vs, H1, I1, r1, q1⟩ => ?_) hs rfl))
  obtain ⟨t, a, xs, ex, hq, q⟩ := q1
  subst ex
  cases r1 with
  | cons r rr =>
    cases rr
    cases r
    obtain ⟨its, rv, p', hlt⟩ := inv_seq I1 hq
    refine enum_begins (begins_seq t a its.toArray) p' fun h' he hit hsz hk => wpAny_pyIter_enum he ?_
    have I2 : Inv X pins σ H1 { s1 with heap := h' } := I1.kept (t' := s1.toks) hk
    refine ⟨s1.heap.objs.size + 1, [s1.heap.objs.size + 1, s1.heap.objs.size], _, _, H1, rfl, I2, turn_enumS t a (s1.heap.objs.size + 1) s1.heap.objs.size (Nat.ne_of_lt (Nat.lt_succ_of_lt hlt)) (Nat.ne_of_lt hlt), ⟨⟨.none, he⟩, ItS.start hit, Nat.succ_ne_self _⟩, fun b hb => ?_, q⟩
    have e' : b = s1.heap.objs.size + 1 ∨ b = s1.heap.objs.size := by simpa using hb
    have hle : s1.heap.objs.size ≤ b := by
      rcases e' with z | z
      · rw [z]; exact Nat.le_add_right _ _
      · rw [z]; exact Nat.le_refl _
    exact I1.fpOk hle (I1.hok.fresh hle)

/-! ### zip -/
def ItZ (t u : Bool) (K : PySem.W.Frag) (a b : Addr) : It :=
  ⟨fun i H => ∃ (xs ys : List V) (x y : V), Sq t K H a xs ∧ Sq u K H b ys ∧ xs[i]? = some x ∧ ys[i]? = some y,
    fun i H v H' => ∃ T x y, v = .ref T ∧ H T = none ∧ H' = upd H T (.tup [x, y]) ∧ (∀ xs, Sq t K H a xs → xs[i]? = some x) ∧ ∀ ys, Sq u K H b ys → ys[i]? = some y,
    fun i H => ∃ xs ys : List V, Sq t K H a xs ∧ Sq u K H b ys ∧ i ≤ xs.length ∧ i ≤ ys.length ∧ (xs.length = i ∨ ys.length = i)⟩
theorem turn_zipS {P : Program} {w : World} {K : PySem.W.Frag} {elts : List Expr} {kk : Nat} {tpos : Pos} (t u : Bool) {a b z TI TO i1 i2 : Addr} (D : ZipSep2 z TI TO i1 i2 [i1, a] [i2, b]) (h1a : a ≠ i1) (h2b : b ≠ i2) :
    Turn P w K (.Tuple elts kk tpos) (ItZ t u K a b) [z, TI, TO, i1, i2] z (fun i h => IsZip h z TI TO .none ∧ IsTupOf2 h TI (.ref i1) (.ref i2) ∧ (∃ x y, IsTupOf2 h TO x y) ∧ ItS t h i1 a i ∧ ItS u h i2 b i) where
  mem := by simp
  obj := fun i h st c hc => by
    obtain ⟨hz, hTI, ⟨x, y, hTO⟩, h1, h2⟩ := st
    have e' : c = z ∨ c = TI ∨ c = TO ∨ c = i1 ∨ c = i2 := by simpa using hc
    rcases e' with q | q | q | q | q
    · rw [q]; exact ⟨_, hz, fun v q => nomatch q⟩
    · rw [q]; exact ⟨_, hTI, fun v q => nomatch q⟩
    · rw [q]; exact ⟨_, hTO, fun v q => nomatch q⟩
    · rw [q]; exact h1.obj
    · rw [q]; exact h2.obj
  keep := fun i h h' st k => by
    obtain ⟨hz, hTI, ⟨x, y, hTO⟩, h1, h2⟩ := st
    exact ⟨k z (by simp) _ hz, k TI (by simp) _ hTI, ⟨x, y, k TO (by simp) _ hTO⟩, h1.at fun o q => k i1 (by simp) o q, h2.at fun o q => k i2 (by simp) o q⟩
  item := by
    intro X hP hw hK hc i pins s σ H E I hf st hg
    subst hP hw hK
    obtain ⟨hz, hTI, ⟨x0, y0, hTO⟩, h1, h2⟩ := st
    obtain ⟨xs, ys, x, y, hqx, hqy, hx, hy⟩ := hg
    obtain ⟨its, rv, p, _⟩ := inv_seq I hqx
    obtain ⟨its2, rv2, p2, _⟩ := inv_seq I hqy
    obtain ⟨v1, hu, ru⟩ := rv.get hx
    obtain ⟨v2, hu2, ru2⟩ := rv2.get hy
    have hzl : z < s.heap.objs.size := Heap.lt_size hz
    have hlt1 : i < its.toArray.size := by simpa using (List.getElem?_eq_some_iff.mp hu).1
    have hlt2 : i < its2.toArray.size := by simpa using (List.getElem?_eq_some_iff.mp hu2).1
    refine wpAny_pyNext_zipD2_item D (draws_seq (A := X.A.in1) (I.ok.hd hc) t i1 a h1a its.toArray) (draws_seq (A := X.A.in1) (I.ok.hd hc) u i2 b h2b its2.toArray) hz hTI hTO ⟨h1, p⟩ ⟨h2, p2⟩ hlt1 hlt2
      fun w1 w2 h' tk e1 e2 z' TO' h1' h2' hT hsz hk => ?_
    have ew1 : w1 = v1 := by
      have q : its[i]? = some w1 := by simpa using e1
      rw [hu] at q; exact (Option.some.inj q).symm
    have ew2 : w2 = v2 := by
      have q : its2[i]? = some w2 := by simpa using e2
      rw [hu2] at q; exact (Option.some.inj q).symm
    subst ew1 ew2
    refine ⟨_, rfl, wpAny_letOwnedTupleGo_zip (s := { s with heap := h', toks := tk }) z' fun h'' z'' sb => ?_⟩
    have hT2 : h''.get? s.heap.objs.size = some { cls := .type "tuple", data := .seq #[w1, w2] } := (sb.2 _ (Nat.ne_of_gt hzl)).trans hT
    have new : ObjOk X.prog X.w (upd H s.heap.objs.size (.tup [x, y])) h'' s.heap.objs.size (.tup [x, y]) :=
      ⟨by show 2 ≤ sizeLine; decide, [w1, w2], .cons ru (.cons ru2 .nil), ⟨_, hT2, rfl, _, rfl⟩⟩
    have I1 : Inv X pins σ (upd H s.heap.objs.size (.tup [x, y])) { s with heap := h'', toks := tk } :=
      I.turnedNew (t' := tk) (ch := [z, TI, TO, i1, i2]) (fun c o hb q => (sb.2 c (fun q' => hb (by simp [q']))).trans (hk c o (fun q' => hb (by simp [q'])) (fun q' => hb (by simp [q'])) (fun q' => hb (by simp [q'])) (fun q' => hb (by simp [q'])) q)) hf (Nat.le_refl _) new
    refine ⟨.ref s.heap.objs.size, _, I1, rfl, ⟨_, x, y, rfl, I.hok.fresh (Nat.le_refl _), rfl, fun l hl => by rw [seq_inj I hl hqx]; exact hx, fun l hl => by rw [seq_inj I hl hqy]; exact hy⟩, ⟨z'', ?_, ⟨w1, w2, ?_⟩, ?_, ?_⟩, fun c hcm => ?_⟩
    · exact (sb.2 _ D.TIz).trans (hk _ _ D.TIz D.TITO D.TIi1 D.TIi2 hTI)
    · exact (sb.2 _ D.TOz).trans TO'
    · exact h1'.1.at fun o q => (sb.2 _ (Ne.symm D.zi1)).trans q
    · exact h2'.1.at fun o q => (sb.2 _ (Ne.symm D.zi2)).trans q
    · have hlt : c < s.heap.objs.size := by
        have e' : c = z ∨ c = TI ∨ c = TO ∨ c = i1 ∨ c = i2 := by simpa using hcm
        rcases e' with q | q | q | q | q
        · rw [q]; exact hzl
        · rw [q]; exact Heap.lt_size hTI
        · rw [q]; exact Heap.lt_size hTO
        · rw [q]; obtain ⟨_, e1, _⟩ := h1.obj; exact Heap.lt_size e1
        · rw [q]; obtain ⟨_, e2, _⟩ := h2.obj; exact Heap.lt_size e2
      rw [upd_ne (Nat.ne_of_lt hlt)]
      exact (hf c hcm).1
  done := by
    intro X hP hw hK hc i pins s σ H E I hf st hg
    subst hP hw hK
    obtain ⟨hz, hTI, ⟨x0, y0, hTO⟩, h1, h2⟩ := st
    obtain ⟨xs, ys, hqx, hqy, hl1, hl2, hend⟩ := hg
    obtain ⟨its, rv, p, _⟩ := inv_seq I hqx
    obtain ⟨its2, rv2, p2, _⟩ := inv_seq I hqy
    have l1 := rv.length
    have l2 := rv2.length
    exact wpAny_pyNext_zipD2_end D (draws_seq (A := X.A.in1) (I.ok.hd hc) t i1 a h1a its.toArray) (draws_seq (A := X.A.in1) (I.ok.hd hc) u i2 b h2b its2.toArray) hz hTI hTO ⟨h1, p⟩ ⟨h2, p2⟩ (by simp; omega) (by simp; omega) (by simp; omega)
      fun h' tk hk => ⟨rfl, I.turnedL (t' := tk) (ch := [z, TI, TO, i1, i2]) (fun c o hb q =>
      hk c o (fun q' => hb (by simp [q'])) (fun q' => hb (by simp [q'])) (fun q' => hb (by simp [q'])) (fun q' => hb (by simp [q'])) q) hf⟩
  self := fun A i s Q E st h => wpAny_pyIter_zip st.1 h
def iZipS (K : PySem.W.Frag) (ta : TA) : TI := fun σ H R => ta σ H fun vs H1 => ∃ t u a b xs ys, vs = [.ref a, .ref b] ∧ Sq t K H1 a xs ∧ Sq u K H1 b ys ∧ R (ItZ t u K a b) H1
theorem sep_of (n a b : Nat) (ha : a < n) (hb : b < n) : ZipSep2 (n + 4) (n + 2) (n + 3) n (n + 1) [n, a] [n + 1, b] where
  TIz := by show n + 2 ≠ n + 4; omega
  TOz := by show n + 3 ≠ n + 4; omega
  TITO := by show n + 2 ≠ n + 3; omega
  TIi1 := by show n + 2 ≠ n; omega
  mem1 := by simp
  zf1 := by simp only [List.mem_cons, List.not_mem_nil, or_false, not_or]; exact ⟨by show n + 4 ≠ n; omega, by show n + 4 ≠ a; omega⟩
  Tf1 := by simp only [List.mem_cons, List.not_mem_nil, or_false, not_or]; exact ⟨by show n + 3 ≠ n; omega, by show n + 3 ≠ a; omega⟩
  TIi2 := by show n + 2 ≠ n + 1; omega
  mem2 := by simp
  zf2 := by simp only [List.mem_cons, List.not_mem_nil, or_false, not_or]; exact ⟨by show n + 4 ≠ n + 1; omega, by show n + 4 ≠ b; omega⟩
  Tf2 := by simp only [List.mem_cons, List.not_mem_nil, or_false, not_or]; exact ⟨by show n + 3 ≠ n + 1; omega, by show n + 3 ≠ b; omega⟩
  sep1_2 := by simp only [List.mem_cons, List.not_mem_nil, or_false, not_or]; exact ⟨by show n ≠ n + 1; omega, by show n ≠ b; omega⟩
  sep2_1 := by simp only [List.mem_cons, List.not_mem_nil, or_false, not_or]; exact ⟨by show n + 1 ≠ n; omega, by show n + 1 ≠ a; omega⟩
theorem pi_zipS {X : Cx} {e e2 : Expr} {ta : TA} {p pos tpos : Pos} {elts : List Expr} {kk : Nat} (hg : Gl X "zip") (hm : X.mg "zip" = none) (ha : PA X [e, e2] ta)
    (hs : starEach [e, e2] X.env = (false, eval e X.env) :: starEach [e2] X.env := by rfl) (hpl : (backTo pos (starEach [e2] X.env)).any (·.1) = false := by rfl) :
    PI X (.Tuple elts kk tpos) (.Call (.Name "zip" p) [e, e2] [] pos) (iZipS X.K ta) := by
  refine ⟨fun pins s σ H R I h => ?_⟩
  refine Call_ (ld_blt I hg hm PyProof.Rows.boot_zip (PyProof.Rows.callWith_type1 (thn (ha.run pos pins s σ H _ I h) fun us s1 ⟨vs, H1, I1, r1, q1⟩ => ?_) hs hpl))
  obtain ⟨t, u, a, b, xs, ys, ex, hqx, hqy, q⟩ := q1
  subst ex
  cases r1 with
  | cons r rr =>
    cases rr with
    | cons r' rr =>
      cases rr
      cases r
      cases r'
      obtain ⟨its, rv, p1, la⟩ := inv_seq I1 hqx
      obtain ⟨its2, rv2, p2, lb⟩ := inv_seq I1 hqy
      refine zip_begins2 (begins_seq t a its.toArray) (begins_seq u b its2.toArray) p1 p2 fun h' hz hTI hTO h1 h2 hsz hk => wpAny_pyIter_zip hz ?_
      have I2 : Inv X pins σ H1 { s1 with heap := h' } := I1.kept (t' := s1.toks) hk
      have la' : a ≠ s1.heap.objs.size := Nat.ne_of_lt la
      have lb' : b ≠ s1.heap.objs.size + 1 := Nat.ne_of_lt (Nat.lt_succ_of_lt lb)
      refine ⟨s1.heap.objs.size + 4, [s1.heap.objs.size + 4, s1.heap.objs.size + 2, s1.heap.objs.size + 3, s1.heap.objs.size, s1.heap.objs.size + 1], _, _, H1, rfl, I2, turn_zipS t u (sep_of s1.heap.objs.size a b la lb) la' lb', ⟨hz, hTI, ⟨_, _, hTO⟩, ItS.start h1, ItS.start h2⟩, fun c hcm => ?_, q⟩
      have e' : c = s1.heap.objs.size + 4 ∨ c = s1.heap.objs.size + 2 ∨ c = s1.heap.objs.size + 3 ∨ c = s1.heap.objs.size ∨ c = s1.heap.objs.size + 1 := by simpa using hcm
      have hle : s1.heap.objs.size ≤ c := by
        rcases e' with z | z | z | z | z
        · rw [z]; exact Nat.le_add_right _ _
        · rw [z]; exact Nat.le_add_right _ _
        · rw [z]; exact Nat.le_add_right _ _
        · rw [z]; exact Nat.le_refl _
        · rw [z]; exact Nat.le_add_right _ _
      exact I1.fpOk hle (I1.hok.fresh hle)
end Pyp

/-! Targets, for, comprehensions. -/
namespace Pyp
open PySem PySem.Spec PyProof.Rows L2
variable {X : Cx}

/-! ### targets -/
def tWG (X : Cx) (tg : Expr) : TG := fun v σ H Q => ∀ pins s u, Inv X pins σ H s → RelV v u → wpAny (model X.prog X.w) X.A (assign tg X.env u) (fun _ s' => ∃ σ' H', Inv X pins σ' H' s' ∧ Q σ' H') X.xe s
theorem tWG_pg {tg : Expr} : PG X tg (tWG X tg) := ⟨fun pins s σ H v u Q I r h => h pins s u I r⟩
theorem tWG_of {tg : Expr} {t : TG} {v : V} {σ : L2.St} {H : Hp} {Q : L2.St → Hp → Prop} (h : PG X tg t) (q : t v σ H Q) : tWG X tg v σ H Q := fun pins s u I r => h.run pins s σ H v u Q I r q
def tWGs (X : Cx) (ts : List Expr) : TGs := fun vs σ H Q => ∀ pins s us, Inv X pins σ H s → Vals vs us → wpAny (model X.prog X.w) X.A (assignInOrder ((assignEach ts X.env).map (·.2)) us) (fun _ s' => ∃ σ' H', Inv X pins σ' H' s' ∧ Q σ' H') X.xe s
theorem tWGs_pgs {ts : List Expr} : PGs X ts (tWGs X ts) := ⟨fun pins s σ H vs us Q I r h => h pins s us I r⟩
theorem tWGs_of {ts : List Expr} {t : TGs} {vs : List V} {σ : L2.St} {H : Hp} {Q : L2.St → Hp → Prop} (h : PGs X ts t) (q : t vs σ H Q) : tWGs X ts vs σ H Q := fun pins s us I r => h.run pins s σ H vs us Q I r q

abbrev Gx := D → Env → Option Env
abbrev Gsx := List D → Env → Option Env
structure SG (X : Cx) (tg : Expr) (g : Gx) (sl : List Nat) : Prop where
  run : ∀ M m σ H env ph d v env', Rel (kx X) M m H ph → EnvR (kx X) M m σ H env → env.length = σ.length → Rep (kx X) M H d v → g d env = some env' → ∀ Q, (∀ σ' H', Frame m H H' → Rel (kx X) M m H' ph → EnvR (kx X) M m σ' H' env' → Chg sl σ σ' env env' → Q σ' H') → tWG X tg v σ H Q
structure SGs (X : Cx) (ts : List Expr) (g : Gsx) (sl : List Nat) : Prop where
  run : ∀ M m σ H env ph ds vs env', Rel (kx X) M m H ph → EnvR (kx X) M m σ H env → env.length = σ.length → Reps (kx X) M H ds vs → g ds env = some env' → ∀ Q, (∀ σ' H', Frame m H H' → Rel (kx X) M m H' ph → EnvR (kx X) M m σ' H' env' → Chg sl σ σ' env env' → Q σ' H') → tWGs X ts vs σ H Q
def gN (i : Nat) : Gx := fun d env => some (env.set i (some (.d d)))
def gsNil : Gsx := fun ds env => match ds with
  | [] => some env
  | _ => none
def gsCons (g : Gx) (gs : Gsx) : Gsx := fun ds env => match ds with
  | d :: ds => (g d env).bind fun env1 => gs ds env1
  | [] => none
def gT (n : Nat) (gs : Gsx) : Gx := fun d env => match d with
  | .tup ds => if ds.length = n then gs ds env else none
  | .lst ds => if ds.length = n then gs ds env else none
  | _ => none
section
variable {pos : Pos} {e : Expr} {es : List Expr} {g : Gx} {gs : Gsx} {sl sl' : List Nat}
theorem g_name (i : Nat) {n : Str} (hN : X.N.Nodup) (hi : X.N[i]? = some n := by rfl) (hx : Loc X.env.scope n := by first | exact .inl rfl | exact .inr rfl) (hf : X.fn n = true ∨ X.env.scope.names.lookup n = some .local := by first | exact .inl rfl | exact .inr rfl) : SG X (.Name n pos) (gN i) [i] :=
  ⟨fun M m σ H env ph d v env' rl er hl r h Q q => tWG_of (pg_name hN hi hx hf) (by
    cases h
    exact q _ H Frame.refl rl (er.set hl r) (Chg.one hl))⟩
theorem gs_nil : SGs X [] gsNil [] := ⟨fun M m σ H env ph ds vs env' rl er hl r h Q q => tWGs_of pgs_nil (by
  cases ds with
  | nil => cases h; rw [Reps] at r; exact ⟨r, q σ H Frame.refl rl er Chg.refl⟩
  | cons d ds => cases h)⟩
theorem gs_cons (h1 : SG X e g sl) (h2 : SGs X es gs sl') (hs : (assignEach (e :: es) X.env).map (·.2) = assign e X.env :: (assignEach es X.env).map (·.2) := by rfl) : SGs X (e :: es) (gsCons g gs) (sl ++ sl') :=
  ⟨fun M m σ H env ph ds vs env' rl er hl r h Q q => tWGs_of (pgs_cons tWG_pg tWGs_pgs hs) (by
    cases ds with
    | nil => cases h
    | cons d ds =>
      rw [Reps] at r
      obtain ⟨v, vs, rfl, r1, r2⟩ := r
      have h' : (g d env).bind (fun env1 => gs ds env1) = some env' := h
      cases hg : g d env with
      | none => rw [hg] at h'; cases h'
      | some env1 =>
        rw [hg] at h'
        refine ⟨v, vs, rfl, h1.run M m σ H env ph d v env1 rl er hl r1 hg _ fun σ1 H1 f1 rl1 er1 c1 => ?_⟩
        exact h2.run M m σ1 H1 env1 ph ds vs env' rl1 er1 (by rw [c1.lenE, c1.lenS, hl]) (Reps.keep (f1.keep rl) _ _ r2) h' Q fun σ2 H2 f2 rl2 er2 c2 => q σ2 H2 (f1.trans f2) rl2 er2 (c1.trans c2))⟩
theorem g_tup {k : Nat} (n : Nat) (hc : X.calm = true) (h : SGs X es gs sl) (hn : (assignEach es X.env).length = n := by rfl) (hst : (assignEach es X.env).findIdx? (·.1) = none := by rfl) : SG X (.Tuple es k pos) (gT n gs) sl :=
  ⟨fun M m σ H env ph d v env' rl er hl r hg Q q => by
    cases d with
    | tup ds =>
      have hg' : (if ds.length = n then gs ds env else none) = some env' := hg
      split at hg'
      · rename_i hl2
        rw [Rep] at r
        obtain ⟨a, xs, e, t, rs⟩ := r
        exact tWG_of (pg_tup hc tWGs_pgs hn hst) ⟨a, xs, e, t.sq, by rw [rs.length]; exact hl2, h.run M m σ H env ph ds xs env' rl er hl rs hg' Q q⟩
      · cases hg'
    | lst ds =>
      have hg' : (if ds.length = n then gs ds env else none) = some env' := hg
      split at hg'
      · rename_i hl2
        rw [Rep] at r
        obtain ⟨a, xs, e, t, rs⟩ := r
        exact tWG_of (pg_lst hc tWGs_pgs hn hst) ⟨a, xs, e, t.sq, by rw [rs.length]; exact hl2, h.run M m σ H env ph ds xs env' rl er hl rs hg' Q q⟩
      · cases hg'
    | _ => cases hg⟩
/-- target = e -/
def sAsg (g : Gx) (x : Ex) : Sx := fun env ph => (x env ph).bindS env fun v ph1 => match v.dat.bind fun d => g d env with
  | some env1 => .nx env1 ph1
  | none => .bad
theorem st_asg {W : WX} {tg : Expr} {x : Ex} (he : SE X W e x) (hg : SG X tg g sl) (hs : swapsWithSole [tg] e pos.line X.env = pure false := by rfl) (hw : swappedStores [tg] e X.env = pure none := by rfl)
    (h1 : (assignEach [tg] X.env).map (·.2) = [assign tg X.env] := by rfl) : SS X W (.Assign [tg] e pos) (sAsg g x) := ⟨fun M0 H0 hd M m σ H env ph s D q => tWS_of (ps_asg tW_pe tWG_pg hs hw h1)
  (he.bindS s q fun val ph1 v H1 fr s1 rv ro q1 => by
    split at q1
    · rename_i env1 e1
      cases hd' : val.dat with
      | none => rw [hd'] at e1; cases e1
      | some d =>
        rw [hd'] at e1
        exact hg.run M m σ H1 env ph1 d v env1 s1.rel s1.er s1.len (rv.dat hd') e1 _ fun σ' H' f' r' er' c => q1 M σ' H' ((s1.keep f' r').chg c er')
    · exact q1.elim)⟩
end

/-! ### what is walked -/
abbrev Ix := Env → PH → Res (List D)
def tWI (X : Cx) (tg iter : Expr) : TI := fun σ H R => ∀ pins s, Inv X pins σ H s → wpAny (model X.prog X.w) X.A (eval iter X.env) (fun v s1 => wpAny (model X.prog X.w) X.A (pyIter v) (PIE X pins σ tg R) X.xe s1) X.xe s
theorem tWI_pi {tg iter : Expr} : PI X tg iter (tWI X tg iter) := ⟨fun pins s σ H R I h => h pins s I⟩
theorem tWI_of {tg iter : Expr} {t : TI} {σ : L2.St} {H : Hp} {R : It → Hp → Prop} (h : PI X tg iter t) (q : t σ H R) : tWI X tg iter σ H R := fun pins s I => h.run pins s σ H R I q
def Grow (H H' : Hp) : Prop := H' = H ∨ ∃ p o, H p = none ∧ H' = upd H p o
theorem Grow.frame {H H' : Hp} {m : List Addr} (g : Grow H H') : Frame m H H' := by
  rcases g with rfl | ⟨p, o, hp, rfl⟩
  · exact Frame.refl
  · exact Frame.new hp
theorem Grow.rel {K M m H H' ph} (g : Grow H H') (r : Rel K M m H ph) : Rel K M m H' ph := by
  rcases g with rfl | ⟨p, o, hp, rfl⟩
  · exact r
  · exact r.new hp
/-- what is walked stands as long as the code runs -/
def Held (K : Kx) (M : Addr → Prop) (m : List Addr) (H : Hp) (v : V) (d : D) : Prop := Rep K M H d v ∨ ∃ a, v = .ref a ∧ a ∉ m ∧ Cont K M H a d
theorem Held.cr {K M m H v d} (h : Held K M m H v d) : CR K M H d v := h.elim Rep.cr fun ⟨_, e, _, c⟩ => e ▸ c.cr
theorem Held.keep {K M m H H' ph v d} (r : Rel K M m H ph) (f : Frame m H H') (h : Held K M m H v d) : Held K M m H' v d :=
  h.imp (Rep.keep (f.keep r) d v) fun ⟨a, e, n, c⟩ => ⟨a, e, n, c.keep (f.keep r) fun o z => f a o z n⟩
structure Drv (K : Kx) (J : It) (ds : List D) (hd : V → D → Prop) : Prop where
  goes : ∀ (i : Nat) H M, (∀ v d, hd v d → CR K M H d v) → i < ds.length → J.go i H
  stops : ∀ H M, (∀ v d, hd v d → CR K M H d v) → J.stop ds.length H
  yields : ∀ (i : Nat) H M x H' d, (∀ v d, hd v d → CR K M H d v) → (∀ a, M a → ∃ o, H a = some o) → ds[i]? = some d → J.yld i H x H' → Grow H H' ∧ Rep K M H' d x
/-- b: only what nobody writes -/
structure SI (X : Cx) (W : WX) (tg iter : Expr) (it : Ix) (b : Bool) : Prop where
  run : ∀ M m σ H env ph, Rel (kx X) M m H ph → EnvR (kx X) M m σ H env → ∀ R, Post X W M m σ H (fun ds ph' => ∀ J hd H', Frame m H H' → Rel (kx X) M m H' ph' → (∀ v d, hd v d → Held (kx X) M m H' v d) → (b = true → ∀ v d, hd v d → Rep (kx X) M H' d v) → Drv (kx X) J ds hd → R J H') (it env ph) → tWI X tg iter σ H R

def seqD : D → Option (List D)
  | .tup ds => some ds
  | .lst ds => some ds
  | _ => none
def Val.see : Val → Option D
  | .d x => some x
  | .own x => some x
  | .bor x => some x
  | .ref _ => none
theorem CR.seq {K M H d v ds} (h : CR K M H d v) (e : seqD d = some ds) : ∃ t a xs, v = .ref a ∧ Sq t K H a xs ∧ Reps K M H ds xs := by
  cases d with
  | tup es =>
    cases e
    have h' : Rep K M H (.tup ds) v := h
    rw [Rep] at h'
    obtain ⟨a, xs, e, t, r⟩ := h'
    exact ⟨true, a, xs, e, t.sq, r⟩
  | lst es =>
    cases e
    obtain ⟨a, xs, e, t, r⟩ := h
    exact ⟨false, a, xs, e, SqL.of t, r⟩
  | _ => cases e
/-- the kind that stays -/
theorem CR.seqT {K M H d a ds} (h : CR K M H d (.ref a)) (e : seqD d = some ds) : ∃ xs, Sq (match d with | .tup _ => true | _ => false) K H a xs ∧ Reps K M H ds xs := by
  cases d with
  | tup es =>
    cases e
    have h' : Rep K M H (.tup ds) (.ref a) := h
    rw [Rep] at h'
    obtain ⟨a', xs, e, t, r⟩ := h'
    cases e
    exact ⟨xs, t.sq, r⟩
  | lst es =>
    cases e
    obtain ⟨a', xs, e, t, r⟩ := h
    cases e
    exact ⟨xs, SqL.of t, r⟩
  | _ => cases e
def isT : D → Bool
  | .tup _ => true
  | _ => false
theorem RV.held {K M m H0 H ph v d} (r : Rel K M m H ph) : ∀ {x : Val}, RV K M m H0 H v x → x.see = some d → Held K M m H v d
  | .d x, h, e => by cases e; exact .inl h
  | .own x, ⟨a, e1, n, nm, c⟩, e => by cases e; subst e1; exact .inl (c.rep nm)
  | .bor x, ⟨a, e1, n, nm, c⟩, e => by cases e; subst e1; exact .inr ⟨a, rfl, nm, c⟩
  | .ref n, h, e => by cases e
theorem dat_see : ∀ {x : Val} {d : D}, x.dat = some d → x.see = some d
  | .d _, _, h => h
  | .own _, _, h => h
  | .bor _, _, h => nomatch h
  | .ref _, _, h => nomatch h
/-- for comprehensions (b false): any; for loops: data -/
def Val.wlk (b : Bool) (v : Val) : Option D := if b = true then v.dat else v.see
theorem RV.wlk {K M m H0 H ph v d x b} (r : Rel K M m H ph) (h : RV K M m H0 H v x) (e : Val.wlk b x = some d) : Held K M m H v d ∧ (b = true → Rep K M H d v) := by
  unfold Val.wlk at e
  split at e
  · exact ⟨h.held r (dat_see e), fun _ => h.dat e⟩
  · rename_i hb
    exact ⟨h.held r e, fun z => absurd z hb⟩
def iSeqX (b : Bool) (x : Ex) : Ix := fun env ph => (x env ph).bind fun v ph1 => Res.of ((v.wlk b).bind seqD) ph1
def one (v : V) (d : D) : V → D → Prop := fun w e => w = v ∧ e = d
theorem drv_seq {K : Kx} {a : Addr} {d : D} {ds : List D} (e : seqD d = some ds) : Drv K (ItO (isT d) K a) ds (one (.ref a) d) := by
  have at_ : ∀ H M, (∀ v d', one (.ref a) d v d' → CR K M H d' v) → ∃ xs, Sq (isT d) K H a xs ∧ Reps K M H ds xs := fun H M h => by
    obtain ⟨xs, h1, h2⟩ := (h _ _ ⟨rfl, rfl⟩).seqT e
    exact ⟨xs, by cases d <;> exact h1, h2⟩
  refine ⟨fun i H M h hi => ?_, fun H M h => ?_, fun i H M x H' d' h _ hd y => ?_⟩
  · obtain ⟨xs, h1, h2⟩ := at_ H M h
    have hl := h2.length
    have hx : xs[i]? = some (xs[i]'(by omega)) := List.getElem?_eq_getElem (by omega)
    unfold ItO
    split
    · rename_i z; unfold Sq at h1; rw [if_pos z] at h1; exact ⟨xs, _, h1, hx⟩
    · rename_i z; unfold Sq at h1; rw [if_neg z] at h1; exact ⟨xs, _, h1, hx⟩
  · obtain ⟨xs, h1, h2⟩ := at_ H M h
    have hl := h2.length
    unfold ItO
    split
    · rename_i z; unfold Sq at h1; rw [if_pos z] at h1; exact ⟨xs, h1, Nat.le_of_eq hl⟩
    · rename_i z; unfold Sq at h1; rw [if_neg z] at h1; exact ⟨xs, h1, Nat.le_of_eq hl⟩
  · obtain ⟨xs, h1, h2⟩ := at_ H M h
    have key : H' = H ∧ xs[i]? = some x := by
      unfold ItO at y
      split at y
      · rename_i z; unfold Sq at h1; rw [if_pos z] at h1; exact ⟨y.1, y.2 xs h1⟩
      · rename_i z; unfold Sq at h1; rw [if_neg z] at h1; exact ⟨y.1, y.2 xs h1⟩
    obtain ⟨rfl, hx⟩ := key
    obtain ⟨d2, e1, e2⟩ := h2.get' hx
    rw [hd] at e1; cases e1
    exact ⟨.inl rfl, e2⟩
section
variable {W : WX} {tg e e1 e2 : Expr} {x : Ex} {xs : Ax} {pos p : Pos} {b : Bool}
theorem Post.ofI {M m σ H} {G : List D → PH → Prop} {o : Option (List D)} {ph : PH} (q : Post X W M m σ H G (Res.of o ph)) : ∃ ds, o = some ds ∧ G ds ph := by
  cases o with
  | none => exact q.elim
  | some v => exact ⟨v, rfl, q⟩
theorem i_seq (b : Bool) (h : SE X W e x) : SI X W tg e (iSeqX b x) b := ⟨fun M m σ H env ph r er R q => tWI_of (pi_seq tW_pe) (by
  refine h.bind r er q fun v ph1 w H1 fr r1 er1 rv ro q1 => ?_
  obtain ⟨ds, eo, g⟩ := Post.ofI q1
  cases hs : v.wlk b with
  | none => rw [hs] at eo; cases eo
  | some d =>
    rw [hs] at eo
    have eo' : seqD d = some ds := eo
    obtain ⟨hh, hr⟩ := rv.wlk r1 hs
    obtain ⟨t, a, xs, ev, sq, _⟩ := hh.cr.seq eo'
    subst ev
    obtain ⟨ys, sq2, _⟩ := hh.cr.seqT eo'
    refine ⟨isT d, a, rfl, ⟨ys, by cases d <;> exact sq2⟩, g (ItO (isT d) X.K a) (one (.ref a) d) H1 fr r1 (fun v' d' z => ?_) (fun hb v' d' z => ?_) (drv_seq eo')⟩
    · obtain ⟨rfl, rfl⟩ := z; exact hh
    · obtain ⟨rfl, rfl⟩ := z; exact hr hb)⟩
/-- enumerate -/
def enumD : Nat → List D → List D
  | _, [] => []
  | n, d :: ds => .tup [.int n, d] :: enumD (n + 1) ds
theorem enumD_length : ∀ (ds : List D) (n : Nat), (enumD n ds).length = ds.length
  | [], _ => rfl
  | _ :: ds, n => by simp [enumD, enumD_length ds (n + 1)]
theorem enumD_get : ∀ (ds : List D) (n i : Nat) (d : D), (enumD n ds)[i]? = some d → ∃ d', ds[i]? = some d' ∧ d = .tup [.int ((n + i : Nat) : Int), d']
  | [], _, _, _, h => by simp [enumD] at h
  | x :: ds, n, 0, d, h => by
    simp [enumD] at h
    subst h
    exact ⟨x, rfl, by simp⟩
  | x :: ds, n, i + 1, d, h => by
    simp only [enumD, List.getElem?_cons_succ] at h
    obtain ⟨d', h1, h2⟩ := enumD_get ds (n + 1) i d h
    refine ⟨d', by simpa using h1, ?_⟩
    rw [h2]
    have : n + 1 + i = n + (i + 1) := by omega
    rw [this]
def iEnumX (b : Bool) (xs : Ax) : Ix := fun env ph => (xs env ph).bind fun vs ph1 => match vs with
  | [v] => Res.of (((v.wlk b).bind seqD).map (enumD 0)) ph1
  | _ => .bad
theorem drv_enum {K : Kx} {a : Addr} {d : D} {ds : List D} (e : seqD d = some ds) : Drv K (ItE (isT d) K a) (enumD 0 ds) (one (.ref a) d) := by
  have at_ : ∀ H M, (∀ v d', one (.ref a) d v d' → CR K M H d' v) → ∃ xs, Sq (isT d) K H a xs ∧ Reps K M H ds xs := fun H M h => by
    obtain ⟨xs, h1, h2⟩ := (h _ _ ⟨rfl, rfl⟩).seqT e
    exact ⟨xs, by cases d <;> exact h1, h2⟩
  refine ⟨fun i H M h hi => ?_, fun H M h => ?_, fun i H M x H' d' h dm hd y => ?_⟩
  · obtain ⟨xs, h1, h2⟩ := at_ H M h
    have hl := h2.length
    rw [enumD_length] at hi
    exact ⟨xs, xs[i]'(by omega), h1, List.getElem?_eq_getElem (by omega)⟩
  · obtain ⟨xs, h1, h2⟩ := at_ H M h
    rw [enumD_length]
    exact ⟨xs, h1, h2.length⟩
  · obtain ⟨xs, h1, h2⟩ := at_ H M h
    obtain ⟨T, z, rfl, hT, rfl, hz⟩ := y
    obtain ⟨d2, e1, e2⟩ := h2.get' (hz xs h1)
    obtain ⟨d3, e3, rfl⟩ := enumD_get ds 0 i d' hd
    rw [e3] at e1; cases e1
    have nT : ¬ M T := fun q => by obtain ⟨o, q⟩ := dm T q; rw [hT] at q; cases q
    refine ⟨.inr ⟨T, _, hT, rfl⟩, ?_⟩
    rw [Rep]
    refine ⟨T, _, rfl, .inl ⟨nT, .inl upd_same⟩, .cons ?_ (.cons (Rep.keep (keep_new hT) _ _ e2) .nil)⟩
    rw [Rep]; simp
theorem i_enum (b : Bool) {elts : List Expr} {kk : Nat} {tpos : Pos} (ha : SA X W [e] xs) (hm : X.mg "enumerate" = none) (hg : Gl X "enumerate" := by rfl) (hs : starEach [e] X.env = [(false, eval e X.env)] := by rfl) : SI X W (.Tuple elts kk tpos) (.Call (.Name "enumerate" p) [e] [] pos) (iEnumX b xs) b :=
  ⟨fun M m σ H env ph r er R q => tWI_of (pi_enumS hg hm tWA_pa hs) (by
  refine ha.bind r er q fun vs ph1 ws H1 fr r1 er1 rv q1 => ?_
  match vs, rv, q1 with
  | [v], ⟨w, ws', e1, rv1, e2⟩, q1 =>
    subst e1
    have e2' : ws' = [] := e2
    subst e2'
    obtain ⟨ds, eo, g⟩ := Post.ofI q1
    cases hs : v.wlk b with
    | none => rw [hs] at eo; cases eo
    | some d =>
      rw [hs] at eo
      cases hq : seqD d with
      | none => rw [show (some d).bind seqD = seqD d from rfl, hq] at eo; cases eo
      | some es =>
        rw [show (some d).bind seqD = seqD d from rfl, hq] at eo
        cases eo
        obtain ⟨hh, hr⟩ := rv1.wlk r1 hs
        obtain ⟨t, a, xs, ev, sq, _⟩ := hh.cr.seq hq
        subst ev
        obtain ⟨ys, sq2, _⟩ := hh.cr.seqT hq
        refine ⟨isT d, a, ys, rfl, by cases d <;> exact sq2, g (ItE (isT d) X.K a) (one (.ref a) d) H1 fr r1 (fun v' d' z => ?_) (fun hb v' d' z => ?_) (drv_enum hq)⟩
        · obtain ⟨rfl, rfl⟩ := z; exact hh
        · obtain ⟨rfl, rfl⟩ := z; exact hr hb
  | [], _, q1 => exact q1.elim
  | _ :: _ :: _, _, q1 => exact q1.elim)⟩
/-- zip -/
def zipD : List D → List D → List D
  | a :: as, b :: bs => .tup [a, b] :: zipD as bs
  | _, _ => []
theorem zipD_length : ∀ (as bs : List D), (zipD as bs).length = min as.length bs.length
  | [], bs => by simp [zipD]
  | a :: as, [] => by simp [zipD]
  | a :: as, b :: bs => by simp [zipD, zipD_length as bs]
theorem zipD_get : ∀ (as bs : List D) (i : Nat) (d : D), (zipD as bs)[i]? = some d → ∃ a b, as[i]? = some a ∧ bs[i]? = some b ∧ d = .tup [a, b]
  | [], bs, i, d, h => by simp [zipD] at h
  | a :: as, [], i, d, h => by simp [zipD] at h
  | a :: as, b :: bs, 0, d, h => by simp [zipD] at h; subst h; exact ⟨a, b, rfl, rfl, rfl⟩
  | a :: as, b :: bs, i + 1, d, h => by
    simp only [zipD, List.getElem?_cons_succ] at h
    obtain ⟨x, y, h1, h2, h3⟩ := zipD_get as bs i d h
    exact ⟨x, y, by simpa using h1, by simpa using h2, h3⟩
def iZipX (b : Bool) (xs : Ax) : Ix := fun env ph => (xs env ph).bind fun vs ph1 => match vs with
  | [v, w] => match (v.wlk b).bind seqD, (w.wlk b).bind seqD with
    | some ds, some es => .ok (zipD ds es) ph1
    | _, _ => .bad
  | _ => .bad
def two (v w : V) (d e : D) : V → D → Prop := fun z f => (z = v ∧ f = d) ∨ (z = w ∧ f = e)
theorem drv_zip {K : Kx} {a b : Addr} {d d' : D} {ds es : List D} (e : seqD d = some ds) (e' : seqD d' = some es) : Drv K (ItZ (isT d) (isT d') K a b) (zipD ds es) (two (.ref a) (.ref b) d d') := by
  have at_ : ∀ H M, (∀ v z, two (.ref a) (.ref b) d d' v z → CR K M H z v) → (∃ xs, Sq (isT d) K H a xs ∧ Reps K M H ds xs) ∧ ∃ ys, Sq (isT d') K H b ys ∧ Reps K M H es ys := fun H M h => by
    obtain ⟨xs, h1, h2⟩ := (h _ _ (.inl ⟨rfl, rfl⟩)).seqT e
    obtain ⟨ys, h3, h4⟩ := (h _ _ (.inr ⟨rfl, rfl⟩)).seqT e'
    exact ⟨⟨xs, by cases d <;> exact h1, h2⟩, ⟨ys, by cases d' <;> exact h3, h4⟩⟩
  refine ⟨fun i H M h hi => ?_, fun H M h => ?_, fun i H M x H' z h dm hd y => ?_⟩
  · obtain ⟨⟨xs, h1, h2⟩, ys, h3, h4⟩ := at_ H M h
    have hl := h2.length
    have hl2 := h4.length
    rw [zipD_length] at hi
    exact ⟨xs, ys, xs[i]'(by omega), ys[i]'(by omega), h1, h3, List.getElem?_eq_getElem (by omega), List.getElem?_eq_getElem (by omega)⟩
  · obtain ⟨⟨xs, h1, h2⟩, ys, h3, h4⟩ := at_ H M h
    have hl := h2.length
    have hl2 := h4.length
    rw [zipD_length]
    exact ⟨xs, ys, h1, h3, by omega, by omega, by omega⟩
  · obtain ⟨⟨xs, h1, h2⟩, ys, h3, h4⟩ := at_ H M h
    obtain ⟨T, u, v, rfl, hT, rfl, hu, hv⟩ := y
    obtain ⟨d2, e1, e2⟩ := h2.get' (hu xs h1)
    obtain ⟨d3, e3, e4⟩ := h4.get' (hv ys h3)
    obtain ⟨d4, d5, e5, e6, rfl⟩ := zipD_get ds es i z hd
    rw [e5] at e1; cases e1
    rw [e6] at e3; cases e3
    have nT : ¬ M T := fun q => by obtain ⟨o, q⟩ := dm T q; rw [hT] at q; cases q
    refine ⟨.inr ⟨T, _, hT, rfl⟩, ?_⟩
    rw [Rep]
    exact ⟨T, _, rfl, .inl ⟨nT, .inl upd_same⟩, .cons (Rep.keep (keep_new hT) _ _ e2) (.cons (Rep.keep (keep_new hT) _ _ e4) .nil)⟩
theorem i_zip (b : Bool) {elts : List Expr} {kk : Nat} {tpos : Pos} (ha : SA X W [e1, e2] xs) (hm : X.mg "zip" = none) (hg : Gl X "zip" := by rfl) (hs : starEach [e1, e2] X.env = (false, eval e1 X.env) :: starEach [e2] X.env := by rfl)
    (hpl : (backTo pos (starEach [e2] X.env)).any (·.1) = false := by rfl) : SI X W (.Tuple elts kk tpos) (.Call (.Name "zip" p) [e1, e2] [] pos) (iZipX b xs) b :=
  ⟨fun M m σ H env ph r er R q => tWI_of (pi_zipS hg hm tWA_pa hs hpl) (by
  refine ha.bind r er q fun vs ph1 ws H1 fr r1 er1 rv q1 => ?_
  match vs, rv, q1 with
  | [v, w], ⟨v1, ws', z1, rv1, w1, ws2, z2, rv2, z3⟩, q1 =>
    subst z1
    have z3' : ws2 = [] := z3
    subst z2 z3'
    have q2 : Post X W M m σ H1 _ (match (v.wlk b).bind seqD, (w.wlk b).bind seqD with
      | some ds, some es => .ok (zipD ds es) ph1
      | _, _ => .bad) := q1
    cases hs1 : v.wlk b with
    | none => rw [hs1] at q2; exact q2.elim
    | some d =>
      cases hs2 : w.wlk b with
      | none =>
        rw [hs1, hs2] at q2
        cases hq : seqD d with
        | none => rw [show (some d).bind seqD = seqD d from rfl, hq] at q2; exact q2.elim
        | some _ => rw [show (some d).bind seqD = seqD d from rfl, hq] at q2; exact q2.elim
      | some d' =>
        rw [hs1, hs2, show (some d).bind seqD = seqD d from rfl, show (some d').bind seqD = seqD d' from rfl] at q2
        cases hq : seqD d with
        | none => rw [hq] at q2; exact q2.elim
        | some ds =>
          cases hq2 : seqD d' with
          | none => rw [hq, hq2] at q2; exact q2.elim
          | some es =>
            rw [hq, hq2] at q2
            obtain ⟨hh, hr⟩ := rv1.wlk r1 hs1
            obtain ⟨hh2, hr2⟩ := rv2.wlk r1 hs2
            obtain ⟨t, a, xs, ev, sq, _⟩ := hh.cr.seq hq
            subst ev
            obtain ⟨t2, a2, xs2, ev, sq', _⟩ := hh2.cr.seq hq2
            subst ev
            obtain ⟨ys, sq2, _⟩ := hh.cr.seqT hq
            obtain ⟨ys2, sq3, _⟩ := hh2.cr.seqT hq2
            refine ⟨isT d, isT d', a, a2, ys, ys2, rfl, by cases d <;> exact sq2, by cases d' <;> exact sq3, q2 (ItZ (isT d) (isT d') X.K a a2) (two (.ref a) (.ref a2) d d') H1 fr r1 (fun v' z z' => ?_) (fun hb v' z z' => ?_) (drv_zip hq hq2)⟩
            · rcases z' with ⟨rfl, rfl⟩ | ⟨rfl, rfl⟩
              · exact hh
              · exact hh2
            · rcases z' with ⟨rfl, rfl⟩ | ⟨rfl, rfl⟩
              · exact hr hb
              · exact hr2 hb
  | [], _, q1 => exact q1.elim
  | [_], _, q1 => exact q1.elim
  | _ :: _ :: _ :: _, _, q1 => exact q1.elim)⟩
/-- range -/
def rngD (lo : Int) : Nat → List D
  | 0 => []
  | n + 1 => .int lo :: rngD (lo + 1) n
theorem rngD_length : ∀ (n : Nat) (lo : Int), (rngD lo n).length = n
  | 0, _ => rfl
  | n + 1, lo => by simp [rngD, rngD_length n]
theorem rngD_get : ∀ (n : Nat) (lo : Int) (i : Nat) (d : D), (rngD lo n)[i]? = some d → d = .int (lo + i)
  | 0, _, _, _, h => by simp [rngD] at h
  | n + 1, lo, 0, d, h => by simp [rngD] at h; subst h; simp
  | n + 1, lo, i + 1, d, h => by
    simp only [rngD, List.getElem?_cons_succ] at h
    rw [rngD_get n (lo + 1) i d h]
    congr 1
    omega
theorem drv_range {K : Kx} {lo : Int} {n : Nat} : Drv K (Itr lo n) (rngD lo n) (fun _ _ => False) := by
  refine ⟨fun i H M h hi => ?_, fun H M h => ?_, fun i H M x H' d' h dm hd y => ?_⟩
  · rw [rngD_length] at hi; exact hi
  · rw [rngD_length]; exact Nat.le_refl n
  · obtain ⟨rfl, rfl⟩ := y
    rw [rngD_get n lo i d' hd]
    exact ⟨.inl rfl, by rw [Rep]⟩
def okR (i : Int) : Bool := decide (i.natAbs ≤ 1000000)
theorem okR_is {i : Int} (h : okR i = true) : -1000000 ≤ i ∧ i ≤ 1000000 := by
  have := of_decide_eq_true (p := i.natAbs ≤ 1000000) h
  omega
theorem okR_of {i : Int} (h : -100000 ≤ i) (h2 : i ≤ 100000) : okR i = true := decide_eq_true (p := i.natAbs ≤ 1000000) (by omega)
def rngE1 (vs : List Val) (ph : PH) : Res (List D) := match vs with
  | [.d (.int j)] => bif okR j then .ok (rngD 0 j.toNat) ph else .bad
  | _ => .bad
def rngE2 (vs : List Val) (ph : PH) : Res (List D) := match vs with
  | [.d (.int i), .d (.int j)] => bif okR i && okR j then .ok (rngD i (j - i).toNat) ph else .bad
  | _ => .bad
def iRng1X (xs : Ax) : Ix := fun env ph => (xs env ph).bind rngE1
def iRng2X (xs : Ax) : Ix := fun env ph => (xs env ph).bind rngE2
theorem rv_int {M m H0 H v i} (h : RV (kx X) M m H0 H v (.d (.int i))) : v = .int i := by rw [RV, Rep] at h; exact h
theorem i_range1 (b : Bool) {a : Expr} (ha : SA X W [a] xs) (hm : X.mg "range" = none) (hg : Gl X "range" := by rfl) (hs : starEach [a] X.env = [(false, eval a X.env)] := by rfl) : SI X W tg (.Call (.Name "range" p) [a] [] pos) (iRng1X xs) b :=
  ⟨fun M m σ H env ph r er R q => tWI_of (pi_range1 hg hm tWA_pa hs) (by
  refine ha.bind r er q fun vs ph1 ws H1 fr r1 er1 rv q1 => ?_
  unfold rngE1 at q1
  split at q1
  · rename_i j
    obtain ⟨w, ws', e1, rv1, e2⟩ := rv
    have e2' : ws' = [] := e2
    subst e1 e2'
    rw [cond_eq_ite] at q1
    split at q1
    · rename_i hb
      have hb := okR_is hb
      rw [rv_int rv1]
      exact ⟨j, rfl, by omega, by omega, q1 (Itr 0 j.toNat) (fun _ _ => False) H1 fr r1 (fun _ _ z => z.elim) (fun _ _ _ z => z.elim) drv_range⟩
    · exact q1.elim
  · exact q1.elim)⟩
theorem i_range2 (b : Bool) {a a' : Expr} (ha : SA X W [a, a'] xs) (hm : X.mg "range" = none) (hg : Gl X "range" := by rfl) (hs : starEach [a, a'] X.env = [(false, eval a X.env), (false, eval a' X.env)] := by rfl) (hs2 : starEach [a'] X.env = [(false, eval a' X.env)] := by rfl) : SI X W tg (.Call (.Name "range" p) [a, a'] [] pos) (iRng2X xs) b :=
  ⟨fun M m σ H env ph r er R q => tWI_of (pi_range2 hg hm tWA_pa hs hs2) (by
  refine ha.bind r er q fun vs ph1 ws H1 fr r1 er1 rv q1 => ?_
  unfold rngE2 at q1
  split at q1
  · rename_i i j
    obtain ⟨w, ws', e1, rv1, w2, ws2, e3, rv2, e2⟩ := rv
    have e2' : ws2 = [] := e2
    subst e1 e3 e2'
    rw [cond_eq_ite] at q1
    split at q1
    · rename_i hb
      rw [Bool.and_eq_true] at hb
      have hb1 := okR_is hb.1
      have hb2 := okR_is hb.2
      rw [rv_int rv1, rv_int rv2]
      exact ⟨i, j, rfl, ⟨by omega, by omega, by omega, by omega⟩, q1 (Itr i (j - i).toNat) (fun _ _ => False) H1 fr r1 (fun _ _ z => z.elim) (fun _ _ _ z => z.elim) drv_range⟩
    · exact q1.elim
  · exact q1.elim)⟩
/-- downward: range(a, b, -1) -/
def rngDn (hi : Int) : Nat → List D
  | 0 => []
  | n + 1 => .int hi :: rngDn (hi - 1) n
theorem rngDn_length : ∀ (n : Nat) (lo : Int), (rngDn lo n).length = n
  | 0, _ => rfl
  | n + 1, lo => by simp [rngDn, rngDn_length n]
theorem rngDn_get : ∀ (n : Nat) (lo : Int) (i : Nat) (d : D), (rngDn lo n)[i]? = some d → d = .int (lo - i)
  | 0, _, _, _, h => by simp [rngDn] at h
  | n + 1, lo, 0, d, h => by simp [rngDn] at h; subst h; simp
  | n + 1, lo, i + 1, d, h => by
    simp only [rngDn, List.getElem?_cons_succ] at h
    rw [rngDn_get n (lo - 1) i d h]
    congr 1
    omega
theorem drv_down {K : Kx} {lo : Int} {n : Nat} : Drv K (Itc lo (-1) n) (rngDn lo n) (fun _ _ => False) := by
  refine ⟨fun i H M h hi => ?_, fun H M h => ?_, fun i H M x H' d' h dm hd y => ?_⟩
  · rw [rngDn_length] at hi; exact hi
  · rw [rngDn_length]; exact Nat.le_refl n
  · obtain ⟨rfl, rfl⟩ := y
    rw [rngDn_get n lo i d' hd]
    refine ⟨.inl rfl, ?_⟩
    rw [Rep]
    congr 1
    omega
def rngE3 (vs : List Val) (ph : PH) : Res (List D) := match vs with
  | [.d (.int i), .d (.int j), .d (.int k)] => bif okR i && okR j && (k == -1) then .ok (rngDn i (i - j).toNat) ph else .bad
  | _ => .bad
def iRng3X (xs : Ax) : Ix := fun env ph => (xs env ph).bind rngE3
theorem i_range3 (bb : Bool) {a b c : Expr} (ha : SA X W [a, b, c] xs) (hi : ∀ R : TI, PI X tg (.Call (.Name "range" p) [a, b, c] [] pos) (iRng3 (tWA X [a, b, c])) := by intro _; first | exact pi_range3 (by rfl) (by assumption) tWA_pa | skip)
    : SI X W tg (.Call (.Name "range" p) [a, b, c] [] pos) (iRng3X xs) bb :=
  ⟨fun M m σ H env ph r er R q => tWI_of (hi (fun _ _ _ => True)) (by
  refine ha.bind r er q fun vs ph1 ws H1 fr r1 er1 rv q1 => ?_
  unfold rngE3 at q1
  split at q1
  · rename_i i j k
    obtain ⟨w, ws', e1, rv1, w2, ws2, e3, rv2, w3, ws3, e4, rv3, e2⟩ := rv
    have e2' : ws3 = [] := e2
    subst e1 e3 e4 e2'
    rw [cond_eq_ite] at q1
    split at q1
    · rename_i hb
      rw [Bool.and_eq_true, Bool.and_eq_true] at hb
      have hb1 := okR_is hb.1.1
      have hb2 := okR_is hb.1.2
      have hk : k = -1 := by simpa using hb.2
      subst hk
      rw [rv_int rv1, rv_int rv2, rv_int rv3]
      exact ⟨i, j, -1, _, rfl, RgC.neg (by omega) (by omega) (by omega) (by omega), q1 (Itc i (-1) (i - j).toNat) (fun _ _ => False) H1 fr r1 (fun _ _ z => z.elim) (fun _ _ _ z => z.elim) drv_down⟩
    · exact q1.elim
  · exact q1.elim)⟩
end

/-! ### for -/
def forL (g : Gx) (b : Sx) : List D → Sx
  | [], env, ph => .nx env ph
  | d :: ds, env, ph => match g d env with
    | some env1 => match b env1 ph with
      | .nx env2 ph2 => forL g b ds env2 ph2
      | .ct env2 ph2 => forL g b ds env2 ph2
      | .bk env2 ph2 => .nx env2 ph2
      | o => o
    | none => .bad
def sFor (g : Gx) (it : Ix) (b : Sx) : Sx := fun env ph => (it env ph).bindS env fun ds ph1 => forL g b ds env ph1
theorem StR.weakHd {K M0 H0 hd hd' M m σ H env ph} (s : StR K M0 H0 hd' M m σ H env ph) (h : ∀ v d, hd v d → hd' v d) : StR K M0 H0 hd M m σ H env ph :=
  ⟨s.rel, s.er, s.len, s.sub, s.mem, s.fr, s.own, s.sep, fun v d z => s.held v d (h v d z)⟩
theorem drop_cons {α : Type} {l : List α} {i : Nat} (h : i < l.length) : l.drop i = l[i] :: l.drop (i + 1) := List.drop_eq_getElem_cons h
theorem st_for {W : WX} {tg iter : Expr} {body : List Stmt} {it : Ix} {g : Gx} {sl : List Nat} {b : Sx} {pos : Pos} (hp : PassesOwn (model X.prog X.w) X.A X.env X.xe) (hc : X.calm = true) (hi : SI X W tg iter it true) (hg : SG X tg g sl) (hb : SB X W body b)
    (hs : ∀ x, foldedSetIterable iter X.env x = pure x := by intro _; rfl) : SS X W (.For tg iter body [] pos) (sFor g it b) := ⟨fun M0 H0 hd M m σ H env ph s D q => tWS_of (ps_for hp hc tWI_pi tWG_pg tWB_ps hs) (by
  have q' : PostS X W M0 H0 hd m D ((it env ph).bindS env fun ds ph1 => forL g b ds env ph1) := q
  refine hi.run M m σ H env ph s.rel s.er _ ?_
  cases hit : it env ph with
  | bad => rw [hit] at q'; exact q'
  | exc c fs ph1 => rw [hit] at q'; exact fun cls d H1 fr r1 ex => q' M σ H1 cls d (s.keep fr r1) ex
  | ok ds ph1 =>
    rw [hit] at q'
    intro J hdI H1 fr r1 hh hrep dr
    have s1 := s.keep fr r1
    have s2 : StR (kx X) M0 H0 (fun v d => hd v d ∨ hdI v d) M m σ H1 env ph1 := ⟨s1.rel, s1.er, s1.len, s1.sub, s1.mem, s1.fr, s1.own, s1.sep, fun v d z => z.elim (s1.held v d) (hrep rfl v d)⟩
    have crs : ∀ {M' σ' H' env' ph'}, StR (kx X) M0 H0 (fun v d => hd v d ∨ hdI v d) M' m σ' H' env' ph' → ∀ v d, hdI v d → CR (kx X) M' H' d v := fun s' v d z => (s'.held v d (.inr z)).cr
    have w : Walk J ds.length (fun H => ∃ M, (∀ a, M a → ∃ o, H a = some o) ∧ ∀ v d, hdI v d → CR (kx X) M H d v) (fun i H x H' => J.yld i H x H') :=
      ⟨fun i H hi ⟨M, _, h⟩ => dr.goes i H M h hi, fun H ⟨M, _, h⟩ => dr.stops H M h, fun i H x H' _ _ y => y⟩
    refine for_it w (fun i σ H => ∃ M env ph, StR (kx X) M0 H0 (fun v d => hd v d ∨ hdI v d) M m σ H env ph ∧ PostS X W M0 H0 hd m D (forL g b (ds.drop i) env ph)) ⟨M, env, ph1, s2, by simpa using q'⟩
      (fun i σ H _ ⟨M, env, ph, s, _⟩ => ⟨M, s.rel.dom, crs s⟩) (fun i x σ1 H2 H3 hi ⟨M3, env3, ph3, s3, q3⟩ y => ?_) (fun σ1 H2 ⟨M3, env3, ph3, s3, q3⟩ => ?_)
    · rw [drop_cons hi] at q3
      obtain ⟨gr, rx⟩ := dr.yields i H2 M3 x H3 ds[i] (crs s3) s3.rel.dom (List.getElem?_eq_getElem hi) y
      have s4 := s3.keep gr.frame (gr.rel s3.rel)
      have q4 : PostS X W M0 H0 hd m D (match g ds[i] env3 with
        | some env1 => match b env1 ph3 with
          | .nx env2 ph2 => forL g b (ds.drop (i + 1)) env2 ph2
          | .ct env2 ph2 => forL g b (ds.drop (i + 1)) env2 ph2
          | .bk env2 ph2 => .nx env2 ph2
          | o => o
        | none => .bad) := q3
      cases hge : g ds[i] env3 with
      | none => rw [hge] at q4; exact q4.elim
      | some env4 =>
        rw [hge] at q4
        refine hg.run M3 m σ1 H3 env3 ph3 ds[i] x env4 s4.rel s4.er s4.len rx hge _ fun σ2 H4 f4 r4 er2 ch => ?_
        have s5 := (s4.keep f4 r4).chg ch er2
        refine hb.run M0 H0 _ M3 m σ2 H4 env4 ph3 s5 _ ?_
        have q5 : PostS X W M0 H0 hd m D (match b env4 ph3 with
          | .nx env2 ph2 => forL g b (ds.drop (i + 1)) env2 ph2
          | .ct env2 ph2 => forL g b (ds.drop (i + 1)) env2 ph2
          | .bk env2 ph2 => .nx env2 ph2
          | o => o) := q4
        cases hbo : b env4 ph3 with
        | nx env5 ph5 => rw [hbo] at q5; exact fun M' σ' H' s' => ⟨M', env5, ph5, s', q5⟩
        | ct env5 ph5 => rw [hbo] at q5; exact fun M' σ' H' s' => ⟨M', env5, ph5, s', q5⟩
        | bk env5 ph5 => rw [hbo] at q5; exact fun M' σ' H' s' => q5 M' σ' H' (s'.weakHd fun _ _ z => .inl z)
        | ret v ph5 => rw [hbo] at q5; exact q5
        | exc c fs env5 ph5 => rw [hbo] at q5; exact fun M' σ' H' cls d s' ex => q5 M' σ' H' cls d (s'.weakHd fun _ _ z => .inl z) ex
        | bad => rw [hbo] at q5; exact q5
    · rw [List.drop_length] at q3
      exact q3 M3 σ1 H2 (s3.weakHd fun _ _ z => .inl z))⟩

/-! ### comprehensions -/
def W0 : WX := fun _ _ _ _ => False
def wipeE (env : Env) : List Nat → Env
  | [] => env
  | v :: vs => (wipeE env vs).set v none
theorem wipeE_length (env : Env) : ∀ vs : List Nat, (wipeE env vs).length = env.length
  | [] => rfl
  | v :: vs => by unfold wipeE; rw [List.length_set, wipeE_length env vs]
theorem wipeE_some {env : Env} {i : Nat} {x : Val} : ∀ {vs : List Nat}, (wipeE env vs)[i]? = some (some x) → env[i]? = some (some x) ∧ i ∉ vs
  | [], h => ⟨h, by simp⟩
  | v :: vs, h => by
    unfold wipeE at h
    by_cases hi : v = i
    · subst hi
      by_cases hv : v < (wipeE env vs).length
      · rw [List.getElem?_set_self hv] at h; cases h
      · rw [List.getElem?_eq_none (by simpa using hv)] at h; cases h
    · rw [List.getElem?_set_ne hi] at h
      obtain ⟨h1, h2⟩ := wipeE_some h
      exact ⟨h1, by simp only [List.mem_cons, not_or]; exact ⟨fun e => hi e.symm, h2⟩⟩
theorem wipe_out' {σ : L2.St} {i : Nat} : ∀ {vs : List Nat}, i ∉ vs → (wipe σ vs)[i]? = σ[i]?
  | [], _ => rfl
  | v :: vs, h => by
    unfold wipe
    simp only [List.mem_cons, not_or] at h
    rw [List.getElem?_set_ne (fun e => h.1 e.symm)]
    exact wipe_out' h.2
theorem wipe_in {σ : L2.St} {i : Nat} : ∀ {vs : List Nat}, i ∈ vs → i < σ.length → (wipe σ vs)[i]? = some none
  | v :: vs, h, hl => by
    unfold wipe
    by_cases hi : v = i
    · subst hi
      exact List.getElem?_set_self (by rw [wipe_length]; exact hl)
    · rw [List.getElem?_set_ne hi]
      exact wipe_in ((List.mem_cons.mp h).resolve_left fun e => hi e.symm) hl
theorem wipe_env {K M m σ H env} (er : EnvR K M m σ H env) (vs : List Nat) : EnvR K M m (wipe σ vs) H (wipeE env vs) := ⟨by rw [wipeE_length, wipe_length, er.1], fun i x e => by
  obtain ⟨h1, h2⟩ := wipeE_some e
  obtain ⟨v, q1, q2⟩ := er.2 i x h1
  exact ⟨v, by rw [wipe_out' h2]; exact q1, q2⟩⟩
theorem wipe_chg {sl vs : List Nat} {σ σ' : L2.St} {env env' : Env} (c : Chg sl σ σ' env env') (h : ∀ j ∈ sl, j ∈ vs) : wipe σ' vs = wipe σ vs := by
  apply List.ext_getElem?
  intro i
  by_cases hv : i ∈ vs
  · by_cases hl : i < σ.length
    · rw [wipe_in hv hl, wipe_in hv (by rw [c.lenS]; exact hl)]
    · rw [List.getElem?_eq_none (by rw [wipe_length, c.lenS]; omega), List.getElem?_eq_none (by rw [wipe_length]; omega)]
  · rw [wipe_out' hv, wipe_out' hv, c.outS i fun z => hv (h i z)]
theorem wipe_wipe {σ : L2.St} (vs : List Nat) : wipe (wipe σ vs) vs = wipe σ vs := by
  apply List.ext_getElem?
  intro i
  by_cases hv : i ∈ vs
  · by_cases hl : i < σ.length
    · rw [wipe_in hv (by rw [wipe_length]; exact hl), wipe_in hv hl]
    · rw [List.getElem?_eq_none (by rw [wipe_length, wipe_length]; omega), List.getElem?_eq_none (by rw [wipe_length]; omega)]
  · rw [wipe_out' hv]
def tYesX : Tx := fun _ ph => .ok true ph
structure STs (X : Cx) (W : WX) (ifs : List Expr) (x : Tx) : Prop where
  run : ∀ M m σ H env ph, Rel (kx X) M m H ph → EnvR (kx X) M m σ H env → ∀ Q, Post X W M m σ H (GT X M m H Q) (x env ph) → ∃ t, PTs X ifs t ∧ t σ H Q
theorem ts_nil {W : WX} : STs X W [] tYesX := ⟨fun M m σ H env ph r er Q q => ⟨tYes, pts_nil, q H Frame.refl r⟩⟩
theorem ts_one {W : WX} {c : Expr} {t : Tx} (h : ST X W c t) : STs X W [c] t := ⟨fun M m σ H env ph r er Q q => ⟨_, pts_one tWT_pt, h.run M m σ H env ph r er Q q⟩⟩
def tWTs (X : Cx) (ifs : List Expr) : TT := fun σ H Q => ∀ pins s, Inv X pins σ H s → wpAny (model X.prog X.w) X.A (forIn ifs true fun c r => if r = true then do let ok ← isTrue c X.env (eval c X.env); pure (ForInStep.yield ok) else pure (ForInStep.yield r)) (TP X pins σ Q) X.xe s
theorem tWTs_pts {ifs : List Expr} : PTs X ifs (tWTs X ifs) := ⟨fun pins s σ H Q I h => h pins s I⟩
theorem tWTs_of {ifs : List Expr} {t : TT} {σ : L2.St} {H : Hp} {Q : Bool → Hp → Prop} (h : PTs X ifs t) (q : t σ H Q) : tWTs X ifs σ H Q := fun pins s I => h.run pins s σ H Q I q
def compL (g : Gx) (t : Tx) (x : Ex) (env : Env) : List D → List D → PH → Res (List D)
  | [], acc, ph => .ok acc ph
  | d :: ds, acc, ph => match g d env with
    | some env1 => match t env1 ph with
      | .ok true ph1 => match x env1 ph1 with
        | .ok v ph2 => match v.dat with
          | some y => if acc.length < lim then compL g t x env ds (acc ++ [y]) ph2 else .bad
          | none => .bad
        | _ => .bad
      | .ok false ph1 => compL g t x env ds acc ph1
      | _ => .bad
    | none => .bad
def eComp (own : List Nat) (g : Gx) (it : Ix) (t : Tx) (x : Ex) : Ex := fun env ph => (it env ph).bind fun ds ph1 => (compL g t x (wipeE env own) ds [] ph1).bind fun out ph2 => .ok (.own (.lst out)) ph2
def gBlk (X : Cx) (scope : Scope) (tg : Expr) : TG := fun v σ H Q => ∀ (s : Shared) (H' : Hp) (C : Addr) (cl : List (Str × Addr)) (fp : List Addr), tWG (X.blk s H' scope (compEnvC scope cl C X.env) fp) tg v σ H Q
def tBlk (X : Cx) (scope : Scope) (ifs : List Expr) : TT := fun σ H Q => ∀ (s : Shared) (H' : Hp) (C : Addr) (cl : List (Str × Addr)) (fp : List Addr), tWTs (X.blk s H' scope (compEnvC scope cl C X.env) fp) ifs σ H Q
def eBlk (X : Cx) (scope : Scope) (elt : Expr) : TE := fun σ H Q => ∀ (s : Shared) (H' : Hp) (C : Addr) (cl : List (Str × Addr)) (fp : List Addr), tW (X.blk s H' scope (compEnvC scope cl C X.env) fp) elt σ H Q
theorem Post.exc_bad {W : WX} {M m σ H} {α : Type} {G : α → PH → Prop} {ph : PH} (q : Post X W M m σ H G (.bad : Res α)) {P : Prop} : P := False.elim q
theorem comp_core {W : WX} {elt tg iter : Expr} {ifs : List Expr} {scope : Scope} {own : List (Str × Nat)} {it : Ix} {g : Gx} {sl : List Nat} {t : Tx} {x : Ex} (hi : SI X W tg iter it false) (hsl : ∀ j ∈ sl, j ∈ own.map (·.2))
    (hg : ∀ (s : Shared) (H : Hp) (C : Addr) (cl : List (Str × Addr)) (fp : List Addr), SG (X.blk s H scope (compEnvC scope cl C X.env) fp) tg g sl) (ht : ∀ (s : Shared) (H : Hp) (C : Addr) (cl : List (Str × Addr)) (fp : List Addr), STs (X.blk s H scope (compEnvC scope cl C X.env) fp) W0 ifs t)
    (he : ∀ (s : Shared) (H : Hp) (C : Addr) (cl : List (Str × Addr)) (fp : List Addr), SE (X.blk s H scope (compEnvC scope cl C X.env) fp) W0 elt x) {M m σ H env ph} {Q : VK} (r : Rel (kx X) M m H ph) (er : EnvR (kx X) M m σ H env)
    (q : Post X W M m σ H (GE X M m H Q) (eComp (own.map (·.2)) g it t x env ph)) :
    tLc (tWI X tg iter) (gBlk X scope tg) (tBlk X scope ifs) (eBlk X scope elt) (own.map (·.2)) σ H Q := by
  refine hi.run M m σ H env ph r er _ ?_
  have q' : Post X W M m σ H (GE X M m H Q) ((it env ph).bind fun ds ph1 => (compL g t x (wipeE env (own.map (·.2))) ds [] ph1).bind fun out ph2 => .ok (.own (.lst out)) ph2) := q
  cases hit : it env ph with
  | bad => rw [hit] at q'; exact q'
  | exc c fs ph1 => rw [hit] at q'; exact q'
  | ok ds ph1 =>
    rw [hit, Res.bind_ok] at q'
    intro J hdI H1 fr r1 hh _ dr Dd hD
    have er1 := er.keep r fr
    have w : Walk J ds.length (fun H => ∃ M, (∀ a, M a → ∃ o, H a = some o) ∧ ∀ v d, hdI v d → CR (kx X) M H d v) (fun i H x H' => J.yld i H x H') :=
      ⟨fun i H hi ⟨M, _, h⟩ => dr.goes i H M h hi, fun H ⟨M, _, h⟩ => dr.stops H M h, fun i H x H' _ _ y => y⟩
    have Dm : Dd ∉ m := fun z => r1.notM hD (r1.sub Dd z)
    refine lc_it w (fun i Hc => ∃ acc accV phc, Frame m H1 Hc ∧ Rel (kx X) (MAdd M Dd) m Hc phc ∧ Hc Dd = some (.lst accV) ∧ Reps (kx X) (MAdd M Dd) Hc acc accV ∧ (∀ v d, hdI v d → Held (kx X) (MAdd M Dd) m Hc v d) ∧ EnvR (kx X) (MAdd M Dd) m σ Hc env ∧
      Post X W M m σ H (GE X M m H Q) ((compL g t x (wipeE env (own.map (·.2))) (ds.drop i) acc phc).bind fun out ph2 => .ok (.own (.lst out)) ph2))
      ⟨[], [], ph1, Frame.new hD, r1.newM hD, upd_same, Reps.nil, fun v d z => ?_, er1.newM hD, by simpa using q'⟩
      (fun i Hc _ ⟨acc, accV, phc, f, rc, _, _, hc, _, _⟩ => ⟨MAdd M Dd, rc.dom, fun v d z => (hc v d z).cr⟩) (fun i xv H2 H2' hi ⟨acc, accV, phc, f, rc, hDc, ra, hc, erc, qc⟩ y => ?_) (fun Hc ⟨acc, accV, phc, f, rc, hDc, ra, hc, erc, qc⟩ => ?_)
    · rcases hh v d z with h | ⟨a, e, n, c⟩
      · exact .inl (Rep.keep (keep_new hD) _ _ (Rep.fresh hD _ _ h))
      · exact .inr ⟨a, e, n, (c.fresh hD).keep (keep_new hD) fun u z => by rw [upd_ne (ne_of_none z hD)]; exact z⟩
    · rw [drop_cons hi] at qc
      obtain ⟨gr, rx⟩ := dr.yields i H2 (MAdd M Dd) xv H2' ds[i] (fun v d z => (hc v d z).cr) rc.dom (List.getElem?_eq_getElem hi) y
      have r3' := gr.rel rc
      have f3' : Frame m H2 H2' := gr.frame
      rw [compL] at qc
      intro s0 H0' C cl fp
      cases hge : g ds[i] (wipeE env (own.map (·.2))) with
      | none => rw [hge] at qc; exact False.elim qc
      | some env1 =>
        rw [hge] at qc
        refine (hg s0 H0' C cl fp).run (MAdd M Dd) m (wipe σ (own.map (·.2))) H2' (wipeE env (own.map (·.2))) phc ds[i] xv env1 r3' (wipe_env (erc.keep rc f3') _) (by rw [wipeE_length, wipe_length, er.1]) rx hge _ ?_
        intro σ2 H3 f3g r3 er2 ch
        have f3 := f3'.trans f3g
        refine ⟨?_, ?_⟩
        · rw [wipe_chg ch hsl, wipe_wipe]
        · intro s0 H0' C cl fp
          have key := (ht s0 H0' C cl fp).run (MAdd M Dd) m σ2 H3 env1 phc r3 er2 (fun b H4 => if b = true then eBlk X scope elt σ2 H4 fun y H5 => ∃ acc', H5 Dd = some (.lst acc') ∧ acc'.length < sizeLine ∧ ∃ acc accV phc, Frame m H1 (upd H5 Dd (.lst (acc' ++ [y]))) ∧ Rel (kx X) (MAdd M Dd) m (upd H5 Dd (.lst (acc' ++ [y]))) phc ∧ (upd H5 Dd (.lst (acc' ++ [y]))) Dd = some (.lst accV) ∧ Reps (kx X) (MAdd M Dd) (upd H5 Dd (.lst (acc' ++ [y]))) acc accV ∧ (∀ v d, hdI v d → Held (kx X) (MAdd M Dd) m (upd H5 Dd (.lst (acc' ++ [y]))) v d) ∧ EnvR (kx X) (MAdd M Dd) m σ (upd H5 Dd (.lst (acc' ++ [y]))) env ∧
            Post X W M m σ H (GE X M m H Q) ((compL g t x (wipeE env (own.map (·.2))) (ds.drop (i + 1)) acc phc).bind fun out ph2 => .ok (.own (.lst out)) ph2)
            else ∃ acc accV phc, Frame m H1 H4 ∧ Rel (kx X) (MAdd M Dd) m H4 phc ∧ H4 Dd = some (.lst accV) ∧ Reps (kx X) (MAdd M Dd) H4 acc accV ∧ (∀ v d, hdI v d → Held (kx X) (MAdd M Dd) m H4 v d) ∧ EnvR (kx X) (MAdd M Dd) m σ H4 env ∧
            Post X W M m σ H (GE X M m H Q) ((compL g t x (wipeE env (own.map (·.2))) (ds.drop (i + 1)) acc phc).bind fun out ph2 => .ok (.own (.lst out)) ph2))
          refine Exists.elim (key ?_) fun tt pq => tWTs_of pq.1 pq.2
          · have q3 : Post X W M m σ H (GE X M m H Q) ((match t env1 phc with
              | .ok true ph1 => match x env1 ph1 with
                | .ok v ph2 => match v.dat with
                  | some y => if acc.length < lim then compL g t x (wipeE env (own.map (·.2))) (ds.drop (i + 1)) (acc ++ [y]) ph2 else .bad
                  | none => .bad
                | _ => .bad
              | .ok false ph1 => compL g t x (wipeE env (own.map (·.2))) (ds.drop (i + 1)) acc ph1
              | _ => .bad : Res (List D)).bind fun out ph2 => .ok (.own (.lst out)) ph2) := qc
            cases hte : t env1 phc with
            | bad => rw [hte] at q3; exact False.elim q3
            | exc c fs ph4 => rw [hte] at q3; exact False.elim q3
            | ok b ph4 =>
              rw [hte] at q3
              intro H4 f4 r4
              have f4 : Frame m H3 H4 := f4
              have r4 : Rel (kx X) (MAdd M Dd) m H4 ph4 := r4
              have fall := f3.trans f4
              have er4 := erc.keep rc fall
              have hc4 : ∀ v d, hdI v d → Held (kx X) (MAdd M Dd) m H4 v d := fun v d z => (hc v d z).keep rc fall
              have hD4 : H4 Dd = some (.lst accV) := fall Dd _ hDc Dm
              have ra4 := Reps.keep (fall.keep rc) _ _ ra
              cases b with
              | false => exact ⟨acc, accV, ph4, f.trans fall, r4, hD4, ra4, hc4, er4, q3⟩
              | true =>
                rw [if_pos rfl]
                intro s0 H0' C cl fp
                refine (he s0 H0' C cl fp).run (MAdd M Dd) m σ2 H4 env1 ph4 r4 (er2.keep r3 f4) _ ?_
                have q4 : Post X W M m σ H (GE X M m H Q) ((match x env1 ph4 with
                  | .ok v ph2 => match v.dat with
                    | some y => if acc.length < lim then compL g t x (wipeE env (own.map (·.2))) (ds.drop (i + 1)) (acc ++ [y]) ph2 else .bad
                    | none => .bad
                  | _ => .bad : Res (List D)).bind fun out ph2 => .ok (.own (.lst out)) ph2) := q3
                cases hxe : x env1 ph4 with
                | bad => rw [hxe] at q4; exact False.elim q4
                | exc c fs ph5 => rw [hxe] at q4; exact False.elim q4
                | ok v ph5 =>
                  rw [hxe] at q4
                  intro yv H5 f5 r5 rv5 _
                  have f5 : Frame m H4 H5 := f5
                  have r5 : Rel (kx X) (MAdd M Dd) m H5 ph5 := r5
                  have rv5 : RV (kx X) (MAdd M Dd) m H4 H5 yv v := rv5
                  have q5 : Post X W M m σ H (GE X M m H Q) ((match v.dat with
                    | some y => if acc.length < lim then compL g t x (wipeE env (own.map (·.2))) (ds.drop (i + 1)) (acc ++ [y]) ph5 else .bad
                    | none => .bad : Res (List D)).bind fun out ph2 => .ok (.own (.lst out)) ph2) := q4
                  cases hda : v.dat with
                  | none => rw [hda] at q5; exact False.elim q5
                  | some y =>
                    rw [hda] at q5
                    have ry := rv5.dat hda
                    have hD5 : H5 Dd = some (.lst accV) := f5 Dd _ hD4 Dm
                    have ra5 := Reps.keep (f5.keep r4) _ _ ra4
                    have q6 : Post X W M m σ H (GE X M m H Q) ((if acc.length < lim then compL g t x (wipeE env (own.map (·.2))) (ds.drop (i + 1)) (acc ++ [y]) ph5 else .bad : Res (List D)).bind fun out ph2 => .ok (.own (.lst out)) ph2) := q5
                    split at q6
                    · rename_i hlen
                      have kk : KeepP (MAdd M Dd) H5 (upd H5 Dd (.lst (accV ++ [yv]))) := fun b o hb n => by rw [upd_ne (fun e => n (.inr e))]; exact hb
                      have ka : ∀ b o, b ≠ Dd → H5 b = some o → upd H5 Dd (.lst (accV ++ [yv])) b = some o := fun b o hb h => by rw [upd_ne hb]; exact h
                      have er5 := er4.keep r4 f5
                      have cka : ∀ {b d}, b ≠ Dd → Cont (kx X) (MAdd M Dd) H5 b d → Cont (kx X) (MAdd M Dd) (upd H5 Dd (.lst (accV ++ [yv]))) b d := fun {b d} hb c => c.keep kk fun o z => ka b o hb z
                      refine ⟨accV, hD5, ?_, acc ++ [y], accV ++ [yv], ph5, ?_, ?_, upd_same, ?_, fun v d z => ?_, ?_, q6⟩
                      · rw [ra5.length]; exact lim_lt (Nat.le_of_lt hlen)
                      · intro b o hb hm
                        have h2 := f.trans (fall.trans f5) b o hb hm
                        rw [upd_ne (ne_of_none hb hD)]; exact h2
                      · refine ⟨r5.len, r5.nd, r5.sub, fun b z => ?_, fun n b d e1 e2 => cka (fun e => Dm (e ▸ List.mem_of_getElem? e1)) (r5.cont n b d e1 e2)⟩
                        by_cases hb : b = Dd
                        · subst hb; exact ⟨_, upd_same⟩
                        · obtain ⟨o, e⟩ := r5.dom b z
                          exact ⟨o, ka b o hb e⟩
                      · exact Reps.append (Reps.keep kk _ _ ra5) (.cons (Rep.keep kk _ _ ry) .nil)
                      · rcases (hc4 v d z).keep r4 f5 with h | ⟨a, e, n, c⟩
                        · exact .inl (Rep.keep kk _ _ h)
                        · by_cases ha : a = Dd
                          · subst ha
                            -- what is walked was there ahead of the new list
                            rcases hh v d z with h0 | ⟨a0, e0, n0, c0⟩
                            · have h6 : Rep (kx X) (MAdd M a) H1 d v := Rep.fresh hD _ _ h0
                              exact .inl (Rep.keep (fun b o hb nn => by
                                rw [upd_ne (ne_of_none hb hD)]
                                exact f.trans (fall.trans f5) b o hb fun q => nn (.inl (r.sub b q))) _ _ h6)
                            · subst e0
                              cases e
                              obtain ⟨o, ho⟩ := c0.some
                              rw [hD] at ho; cases ho
                          · exact .inr ⟨a, e, n, cka ha c⟩
                      · refine ⟨er5.1, fun j z ez => ?_⟩
                        obtain ⟨v', h1, h2⟩ := er5.2 j z ez
                        refine ⟨v', h1, ?_⟩
                        cases z with
                        | d z => exact Rep.keep kk _ _ h2
                        | own z =>
                          obtain ⟨a, e, ma, am, c⟩ := h2
                          refine ⟨a, e, ma, am, cka (fun ea => ?_) c⟩
                          subst ea
                          obtain ⟨v0, g1, a0, g2, g3, _⟩ := er1.2 j _ ez
                          rw [h1] at g1
                          have e' : v' = v0 := by simpa using g1
                          subst e'
                          rw [e] at g2
                          cases g2
                          exact r1.notM hD g3
                        | bor z => exact h2.elim
                        | ref n => exact h2
                    · exact False.elim q6
    · rw [List.drop_length] at qc
      have k0 : ∀ b, M b → MAdd M Dd b := fun b z => .inl z
      refine qc (.ref Dd) Hc (fr.trans f) (rc.anti k0 r.sub) ⟨Dd, rfl, fr.back r1 hD, r1.notM hD, accV, hDc, Reps.anti k0 _ _ ra⟩ fun d e a ea => ?_
      cases e; cases ea
      exact ⟨rc, accV, hDc, ra⟩
section
variable {W : WX} {elt tg iter : Expr} {ifs : List Expr} {scope : Scope} {own : List (Str × Nat)} {it : Ix} {g : Gx} {sl : List Nat} {t : Tx} {x : Ex} {pos spos py : Pos}
theorem gBlk_pg (s : Shared) (H : Hp) (C : Addr) (cl : List (Str × Addr)) (fp : List Addr) : PG (X.blk s H scope (compEnvC scope cl C X.env) fp) tg (gBlk X scope tg) := ⟨fun pins s0 σ H0 v u Q I r h => h s H C cl fp pins s0 u I r⟩
theorem tBlk_pt (s : Shared) (H : Hp) (C : Addr) (cl : List (Str × Addr)) (fp : List Addr) : PTs (X.blk s H scope (compEnvC scope cl C X.env) fp) ifs (tBlk X scope ifs) := ⟨fun pins s0 σ H0 Q I h => h s H C cl fp pins s0 I⟩
theorem eBlk_pe (s : Shared) (H : Hp) (C : Addr) (cl : List (Str × Addr)) (fp : List Addr) : PE (X.blk s H scope (compEnvC scope cl C X.env) fp) elt (eBlk X scope elt) := ⟨fun pins s0 σ H0 Q I h => h s H C cl fp pins s0 I⟩
theorem s_comp (own : List (Str × Nat)) (hc : X.calm = true) (hN : X.N.Nodup) (ok : BlkOk X.N X.env.scope scope own) (hi : SI X W tg iter it false) (hsl : ∀ j ∈ sl, j ∈ own.map (·.2))
    (hg : ∀ (s : Shared) (H : Hp) (C : Addr) (cl : List (Str × Addr)) (fp : List Addr), SG (X.blk s H scope (compEnvC scope cl C X.env) fp) tg g sl) (ht : ∀ (s : Shared) (H : Hp) (C : Addr) (cl : List (Str × Addr)) (fp : List Addr), STs (X.blk s H scope (compEnvC scope cl C X.env) fp) W0 ifs t)
    (he : ∀ (s : Shared) (H : Hp) (C : Addr) (cl : List (Str × Addr)) (fp : List Addr), SE (X.blk s H scope (compEnvC scope cl C X.env) fp) W0 elt x) (hs : ∀ x, foldedSetIterable iter X.env x = pure x := by intro _; rfl) :
    SE X W (.ListComp elt [⟨tg, iter, ifs, 0⟩] scope pos) (eComp (own.map (·.2)) g it t x) :=
  ⟨fun M m σ H env ph r er Q q => tW_of (pe_lc hc hN tWI_pi ok gBlk_pg tBlk_pt eBlk_pe hs) (comp_core hi hsl hg ht he r er q)⟩
/-- name = [..] on one line: as data, as a list of the name's own -/
theorem st_setLc (own : List (Str × Nat)) {i : Nat} {y : Str} (hc : X.calm = true) (hN : X.N.Nodup) (ok : BlkOk X.N X.env.scope scope own) (hy : X.N[i]? = some y) (hyl : X.env.scope.names.lookup y = some .local)
    (hsw : swapsWith (.ListComp elt [⟨tg, iter, ifs, 0⟩] scope pos) (some (.Name y py)) spos.line X.env = pure true) (hi : SI X W tg iter it false) (hsl : ∀ j ∈ sl, j ∈ own.map (·.2))
    (hg : ∀ (s : Shared) (H : Hp) (C : Addr) (cl : List (Str × Addr)) (fp : List Addr), SG (X.blk s H scope (compEnvC scope cl C X.env) fp) tg g sl) (ht : ∀ (s : Shared) (H : Hp) (C : Addr) (cl : List (Str × Addr)) (fp : List Addr), STs (X.blk s H scope (compEnvC scope cl C X.env) fp) W0 ifs t)
    (he : ∀ (s : Shared) (H : Hp) (C : Addr) (cl : List (Str × Addr)) (fp : List Addr), SE (X.blk s H scope (compEnvC scope cl C X.env) fp) W0 elt x) (hs : ∀ x, foldedSetIterable iter X.env x = pure x := by intro _; rfl) :
    SS X W (.Assign [.Name y py] (.ListComp elt [⟨tg, iter, ifs, 0⟩] scope pos) spos) (sSet i (eComp (own.map (·.2)) g it t x)) :=
  ⟨fun M0 H0 hd M m σ H env ph s D q => tWS_of (ps_setLc hc hN hy hyl hsw tWI_pi ok gBlk_pg tBlk_pt eBlk_pe hs) (by
    have q' : PostS X W M0 H0 hd m D ((eComp (own.map (·.2)) g it t x env ph).bindS env fun v ph1 => match v.dat with
      | some d => .nx (env.set i (some (.d d))) ph1
      | none => .bad) := q
    refine comp_core (Q := fun x H1 => gName i x σ H1 D.nx) hi hsl hg ht he s.rel s.er ?_
    cases hx : eComp (own.map (·.2)) g it t x env ph with
    | bad => rw [hx] at q'; exact q'
    | exc c fs ph1 => rw [hx] at q'; exact fun cls d H1 fr r1 ex => q' M σ H1 cls d (s.keep fr r1) ex
    | ok v ph1 =>
      rw [hx] at q'
      intro w H1 fr r1 rv ro
      have q2 : PostS X W M0 H0 hd m D (match v.dat with
        | some d => .nx (env.set i (some (.d d))) ph1
        | none => .bad) := q'
      cases hda : v.dat with
      | none => rw [hda] at q2; exact q2.elim
      | some d => rw [hda] at q2; exact q2 M _ H1 ((s.keep fr r1).setD (rv.dat hda)))⟩
theorem st_ownLc (own : List (Str × Nat)) {i : Nat} {y : Str} (hc : X.calm = true) (hN : X.N.Nodup) (ok : BlkOk X.N X.env.scope scope own) (hy : X.N[i]? = some y) (hyl : X.env.scope.names.lookup y = some .local)
    (hsw : swapsWith (.ListComp elt [⟨tg, iter, ifs, 0⟩] scope pos) (some (.Name y py)) spos.line X.env = pure true) (hi : SI X W tg iter it false) (hsl : ∀ j ∈ sl, j ∈ own.map (·.2))
    (hg : ∀ (s : Shared) (H : Hp) (C : Addr) (cl : List (Str × Addr)) (fp : List Addr), SG (X.blk s H scope (compEnvC scope cl C X.env) fp) tg g sl) (ht : ∀ (s : Shared) (H : Hp) (C : Addr) (cl : List (Str × Addr)) (fp : List Addr), STs (X.blk s H scope (compEnvC scope cl C X.env) fp) W0 ifs t)
    (he : ∀ (s : Shared) (H : Hp) (C : Addr) (cl : List (Str × Addr)) (fp : List Addr), SE (X.blk s H scope (compEnvC scope cl C X.env) fp) W0 elt x) (hs : ∀ x, foldedSetIterable iter X.env x = pure x := by intro _; rfl) :
    SS X W (.Assign [.Name y py] (.ListComp elt [⟨tg, iter, ifs, 0⟩] scope pos) spos) (sOwn i (eComp (own.map (·.2)) g it t x)) :=
  ⟨fun M0 H0 hd M m σ H env ph s D q => tWS_of (ps_setLc hc hN hy hyl hsw tWI_pi ok gBlk_pg tBlk_pt eBlk_pe hs) (by
    have q' : PostS X W M0 H0 hd m D ((eComp (own.map (·.2)) g it t x env ph).bindS env fun v ph1 => match v with
      | .own d => .nx (env.set i (some (.own d))) ph1
      | _ => .bad) := q
    refine comp_core (Q := fun x H1 => gName i x σ H1 D.nx) hi hsl hg ht he s.rel s.er ?_
    cases hx : eComp (own.map (·.2)) g it t x env ph with
    | bad => rw [hx] at q'; exact q'
    | exc c fs ph1 => rw [hx] at q'; exact fun cls d H1 fr r1 ex => q' M σ H1 cls d (s.keep fr r1) ex
    | ok v ph1 =>
      rw [hx] at q'
      intro w H1 fr r1 rv ro
      cases v with
      | own d =>
        obtain ⟨a, rfl, h1, h2, h3⟩ := rv
        obtain ⟨ra, ca⟩ := ro d rfl a rfl
        exact q' _ _ H1 (s.setOwn fr ra ca h1 h2)
      | _ => exact False.elim q')⟩
end
end Pyp

/-! Two-place operations by values. -/
namespace Pyp
open PySem L2

theorem cr_int {K M H i v} (h : CR K M H (.int i) v) : v = .int i := by
  have h' : Rep K M H (.int i) v := h
  rwa [Rep] at h'
theorem cr_bl {K M H b v} (h : CR K M H (.bl b) v) : v = .bl b := by
  have h' : Rep K M H (.bl b) v := h
  rwa [Rep] at h'
theorem cr_str {K M H x v} (h : CR K M H (.str x) v) : v = .str ⟨x.toArray⟩ := by
  have h' : Rep K M H (.str x) v := h
  rwa [Rep] at h'
theorem cr_non {K M H v} (h : CR K M H .non v) : v = .non := by
  have h' : Rep K M H .non v := h
  rwa [Rep] at h'
theorem cr_tup {K M H ds v} (h : CR K M H (.tup ds) v) : ∃ a xs, v = .ref a ∧ TupAt K M H a xs ∧ Reps K M H ds xs := by
  have h' : Rep K M H (.tup ds) v := h
  rwa [Rep] at h'
theorem cr_fz {K M H ns v} (h : CR K M H (.fz ns) v) : ∃ a, v = .ref a ∧ FzAt K M H a (ns.map V.int) := by
  have h' : Rep K M H (.fz ns) v := h
  rwa [Rep] at h'
theorem cr_lst {K M H ds v} (h : CR K M H (.lst ds) v) : ∃ a xs, v = .ref a ∧ H a = some (.lst xs) ∧ Reps K M H ds xs := h

/-! ends of an operation -/
section
variable {X : Cx} {M : Addr → Prop} {m : List Addr} {H : Hp} {Q : VK} {ph : PH} {ds : List D} {xs : List V} {d : D} {v : V}
theorem GE.dat (g : GE X M m H Q (.d d) ph) (r : Rel (kx X) M m H ph) (h : Rep (kx X) M H d v) : Q v H := g v H Frame.refl r h RO.d
theorem GE.tup (g : GE X M m H Q (.d (.tup ds)) ph) (r : Rel (kx X) M m H ph) (h : Reps (kx X) M H ds xs) : ∀ p, H p = none → Q (.ref p) (upd H p (.tup xs)) := fun p hp => g (.ref p) _ (Frame.new hp) (r.new hp) (tup_new r hp h) RO.d
theorem GE.lst (g : GE X M m H Q (.own (.lst ds)) ph) (r : Rel (kx X) M m H ph) (h : Reps (kx X) M H ds xs) : ∀ p, H p = none → Q (.ref p) (upd H p (.lst xs)) := fun p hp => g (.ref p) _ (Frame.new hp) (r.new hp) (own_new r hp hp h) (own_ro r hp h)
theorem GE.bl {b : Bool} (g : GE X M m H Q (.d (.bl b)) ph) (r : Rel (kx X) M m H ph) : Q (.bl b) H := g.dat r (by rw [Rep])
theorem GE.int {i : Int} (g : GE X M m H Q (.d (.int i)) ph) (r : Rel (kx X) M m H ph) : Q (.int i) H := g.dat r (by rw [Rep])
theorem GE.str {x : List Nat} (g : GE X M m H Q (.d (.str x)) ph) (r : Rel (kx X) M m H ph) : Q (.str ⟨x.toArray⟩) H := g.dat r (by rw [Rep])
theorem GE.non (g : GE X M m H Q (.d .non) ph) (r : Rel (kx X) M m H ph) : Q .non H := g.dat r (by rw [Rep])
end

/-! ### data as the kit's data -/
mutual
def D.py : D → PyData
  | .non => .none
  | .bl b => .bool b
  | .int i => .int i
  | .str x => .str ⟨x.toArray⟩
  | .tup ds => .tuple (pys ds)
  | .lst ds => .list (pys ds)
  | .dic _ _ => .dict []
  | .fz ns => .list (ns.map .int)
def pys : List D → List PyData
  | [] => []
  | d :: ds => d.py :: pys ds
end
theorem pys_map : ∀ ds : List D, pys ds = ds.map D.py
  | [] => by rw [pys]; rfl
  | d :: ds => by rw [pys, pys_map ds]; rfl
mutual
def D.nodic : D → Bool
  | .dic _ _ => false
  | .tup ds => nodics ds
  | .lst ds => nodics ds
  | _ => true
def nodics : List D → Bool
  | [] => true
  | d :: ds => d.nodic && nodics ds
end
theorem dpAll_ints {K : Kx} {H : Hp} : ∀ ns : List Int, DpAll K H (ns.map V.int) (ns.map PyData.int)
  | [] => .nil
  | n :: ns => .cons (.int n) (dpAll_ints ns)
mutual
theorem Rep.dp {K : Kx} {M : Addr → Prop} {H : Hp} : ∀ (d : D) (v : V), Rep K M H d v → d.py.canLay0 = true → Dp K H v d.py
  | .non, v, h, _ => by rw [Rep] at h; subst h; rw [D.py]; exact .non
  | .bl b, v, h, _ => by rw [Rep] at h; subst h; rw [D.py]; exact .bl b
  | .int i, v, h, _ => by rw [Rep] at h; subst h; rw [D.py]; exact .int i
  | .str x, v, h, _ => by rw [Rep] at h; subst h; rw [D.py]; exact .str _
  | .tup ds, v, h, c => by
    rw [Rep] at h
    obtain ⟨a, xs, rfl, t, r⟩ := h
    rw [D.py]
    exact .tup t.sq (Reps.dp ds xs r (by rw [D.py, PyData.canLay0] at c; exact c))
  | .lst ds, v, h, c => by
    rw [Rep] at h
    obtain ⟨a, xs, rfl, t, r⟩ := h
    rw [D.py]
    exact .lst t.sq (Reps.dp ds xs r (by rw [D.py, PyData.canLay0] at c; exact c))
  | .dic ks vs, v, h, c => by rw [D.py, PyData.canLay0] at c; cases c
  | .fz ns, v, h, _ => by
    rw [Rep] at h
    obtain ⟨a, rfl, t⟩ := h
    rw [D.py]
    exact .lst t.sq (dpAll_ints ns)
theorem Reps.dp {K : Kx} {M : Addr → Prop} {H : Hp} : ∀ (ds : List D) (xs : List V), Reps K M H ds xs → PyData.canLayAll0 (pys ds) = true → DpAll K H xs (pys ds)
  | [], xs, h, _ => by rw [Reps] at h; subst h; rw [pys]; exact .nil
  | d :: ds, xs, h, c => by
    rw [Reps] at h
    obtain ⟨v, vs, rfl, r, rs⟩ := h
    rw [pys, PyData.canLayAll0, Bool.and_eq_true] at c
    rw [pys]
    exact .cons (Rep.dp d v r c.1) (Reps.dp ds vs rs c.2)
end
theorem CR.dp {K : Kx} {M : Addr → Prop} {H : Hp} {d : D} {v : V} (h : CR K M H d v) (c : d.py.canLay0 = true) : Dp K H v d.py := by
  cases d with
  | lst ds =>
    obtain ⟨a, xs, rfl, t, r⟩ := h
    rw [D.py]
    exact .lst (SqL.of t) (Reps.dp ds xs r (by rw [D.py, PyData.canLay0] at c; exact c))
  | dic ks vs => rw [D.py, PyData.canLay0] at c; cases c
  | _ => exact Rep.dp (M := M) _ v h c
/-! ### own words for what can be compared, and for == -/
mutual
def D.okB : D → Bool
  | .dic _ _ => false
  | .fz _ => false
  | .str x => x.all fun c => decide (c < 0x110000)
  | .tup ds => oksB ds
  | .lst ds => oksB ds
  | _ => true
def oksB : List D → Bool
  | [] => true
  | d :: ds => d.okB && oksB ds
end
mutual
def D.dep : D → Nat
  | .tup ds => deps ds + 1
  | .lst ds => deps ds + 1
  | _ => 0
def deps : List D → Nat
  | [] => 0
  | d :: ds => max d.dep (deps ds)
end
def shp (d : D) : Bool := d.okB && decide (d.dep ≤ 64)
mutual
def deq : D → D → Bool
  | .non, .non => true
  | .bl a, .bl b => a == b
  | .bl a, .int j => (if a then 1 else 0) == j
  | .int i, .bl b => i == (if b then 1 else 0)
  | .int i, .int j => i == j
  | .str x, .str y => x == y
  | .tup ds, .tup es => deqs ds es
  | .lst ds, .lst es => deqs ds es
  | _, _ => false
def deqs : List D → List D → Bool
  | [], [] => true
  | d :: ds, e :: es => deq d e && deqs ds es
  | _, _ => false
end
mutual
theorem okB_lay : ∀ d : D, d.okB = true → d.py.canLay0 = true ∧ d.py.depth = d.dep
  | .non, _ => by rw [D.py, D.dep] <;> first | exact ⟨rfl, rfl⟩ | (intros; contradiction)
  | .bl b, _ => by rw [D.py, D.dep] <;> first | exact ⟨rfl, rfl⟩ | (intros; contradiction)
  | .int i, _ => by rw [D.py, D.dep] <;> first | exact ⟨rfl, rfl⟩ | (intros; contradiction)
  | .str x, h => by
    rw [D.okB] at h
    rw [D.py, D.dep]
    · refine ⟨?_, rfl⟩
      rw [PyData.canLay0]
      unfold PyData.strOk
      rw [List.all_toArray']
      · exact h
      · rfl
    all_goals (intros; contradiction)
  | .tup ds, h => by
    rw [D.okB] at h
    obtain ⟨h1, h2⟩ := oksB_lay ds h
    rw [D.py, D.dep, PyData.canLay0, PyData.depth, h2]
    exact ⟨h1, rfl⟩
  | .lst ds, h => by
    rw [D.okB] at h
    obtain ⟨h1, h2⟩ := oksB_lay ds h
    rw [D.py, D.dep, PyData.canLay0, PyData.depth, h2]
    exact ⟨h1, rfl⟩
  | .dic _ _, h => by rw [D.okB] at h; cases h
  | .fz _, h => by rw [D.okB] at h; cases h
theorem oksB_lay : ∀ ds : List D, oksB ds = true → PyData.canLayAll0 (pys ds) = true ∧ PyData.depthAll (pys ds) = deps ds
  | [], _ => by rw [pys, deps]; exact ⟨rfl, rfl⟩
  | d :: ds, h => by
    rw [oksB, Bool.and_eq_true] at h
    obtain ⟨h1, h2⟩ := okB_lay d h.1
    obtain ⟨h3, h4⟩ := oksB_lay ds h.2
    rw [pys, deps, PyData.canLayAll0, PyData.depthAll, h1, h3, h2, h4]
    exact ⟨rfl, rfl⟩
end
theorem shp_shaped {d : D} (h : shp d = true) : SeqAt.shaped d.py = true := by
  unfold shp at h
  rw [Bool.and_eq_true] at h
  obtain ⟨h1, h2⟩ := okB_lay d h.1
  unfold SeqAt.shaped
  rw [h1, h2, h.2]; rfl
theorem shp_ok {d : D} (h : shp d = true) : d.okB = true := by
  unfold shp at h
  rw [Bool.and_eq_true] at h
  exact h.1
theorem strEq (x y : List Nat) : ((⟨x.toArray⟩ : Str) == ⟨y.toArray⟩) = (x == y) := by
  rw [Bool.eq_iff_iff, beq_iff_eq, beq_iff_eq]
  constructor
  · intro h
    have := congrArg (fun s : Str => s.cps.toList) h
    simpa using this
  · intro h; rw [h]
mutual
theorem deq_eqv : ∀ d e : D, d.okB = true → e.okB = true → PyData.eqv d.py e.py = deq d e
  | .non, e, _, _ => by cases e <;> (simp only [D.py, deq, PyData.eqv])
  | .bl b, e, _, _ => by cases e <;> (simp only [D.py, deq, PyData.eqv])
  | .int i, e, _, _ => by cases e <;> (simp only [D.py, deq, PyData.eqv])
  | .str x, e, _, _ => by cases e <;> (simp only [D.py, deq, PyData.eqv, strEq])
  | .tup ds, e, h, h' => by
    cases e with
    | tup es =>
      rw [D.okB] at h h'
      simp only [D.py, deq, PyData.eqv]
      exact deqs_eqv ds es h h'
    | _ => simp only [D.py, deq, PyData.eqv]
  | .lst ds, e, h, h' => by
    cases e with
    | lst es =>
      rw [D.okB] at h h'
      simp only [D.py, deq, PyData.eqv]
      exact deqs_eqv ds es h h'
    | fz ns => rw [D.okB] at h'; cases h'
    | _ => simp only [D.py, deq, PyData.eqv]
  | .dic _ _, _, h, _ => by rw [D.okB] at h; cases h
  | .fz _, _, h, _ => by rw [D.okB] at h; cases h
theorem deqs_eqv : ∀ ds es : List D, oksB ds = true → oksB es = true → PyData.eqvAll (pys ds) (pys es) = deqs ds es
  | [], [], _, _ => by simp only [pys, deqs, PyData.eqvAll]
  | [], e :: es, _, _ => by simp only [pys, deqs, PyData.eqvAll]
  | d :: ds, [], _, _ => by simp only [pys, deqs, PyData.eqvAll]
  | d :: ds, e :: es, h, h' => by
    rw [oksB, Bool.and_eq_true] at h h'
    simp only [pys, deqs, PyData.eqvAll]
    rw [deq_eqv d e h.1 h'.1, deqs_eqv ds es h.2 h'.2]
end
theorem CR.dps {K : Kx} {M : Addr → Prop} {H : Hp} {d : D} {v : V} (h : CR K M H d v) (c : shp d = true) : Dp K H v d.py := h.dp (SeqAt.canLay_of_shaped (shp_shaped c))

section
variable {X : Cx}
def dEq : D → D → Option Val := fun d e => if shp d = true ∧ shp e = true then some (.d (.bl (deq d e))) else none
def dNe : D → D → Option Val := fun d e => if shp d = true ∧ shp e = true then some (.d (.bl (!deq d e))) else none
theorem o_eq (hu : X.A.units + 64 < cLine) : OpS X (compareOp .Eq) dEq := by
  intro pins s σ H x y u v M m ph dx dy val Q I rx ry r hx hy e g
  unfold dEq at e
  split at e
  · rename_i h
    cases e
    exact op_eqD hu pins s σ H x y u v Q I rx ry ⟨_, _, hx.dps h.1, hy.dps h.2, shp_shaped h.1, shp_shaped h.2, by rw [deq_eqv _ _ (shp_ok h.1) (shp_ok h.2)]; exact g.bl r⟩
  · cases e
theorem o_ne (hu : X.A.units + 64 < cLine) : OpS X (compareOp .NotEq) dNe := by
  intro pins s σ H x y u v M m ph dx dy val Q I rx ry r hx hy e g
  unfold dNe at e
  split at e
  · rename_i h
    cases e
    exact op_neD hu pins s σ H x y u v Q I rx ry ⟨_, _, hx.dps h.1, hy.dps h.2, shp_shaped h.1, shp_shaped h.2, by rw [deq_eqv _ _ (shp_ok h.1) (shp_ok h.2)]; exact g.bl r⟩
  · cases e

/-! in, not in: lists, tuples -/
def inB : D → D → Option Bool := fun d e => if shp d = true ∧ shp e = true then match e with
  | .lst ds => some (ds.any fun z => deq z d)
  | .tup ds => some (ds.any fun z => deq z d)
  | _ => none else none
def dIn : D → D → Option Val := fun d e => (inB d e).map fun b => .d (.bl b)
def dNotIn : D → D → Option Val := fun d e => (inB d e).map fun b => .d (.bl (!b))
theorem any_pys (d : D) (hd : d.okB = true) : ∀ ds : List D, oksB ds = true → ((pys ds).any fun z => PyData.eqv z d.py) = ds.any fun z => deq z d
  | [], _ => by rw [pys]; rfl
  | e :: ds, h => by
    rw [oksB, Bool.and_eq_true] at h
    rw [pys, List.any_cons, List.any_cons, any_pys d hd ds h.2, deq_eqv e d h.1 hd]
theorem in_core (hu : X.A.units + 65 < cLine) {pins s σ H x y u v M d e b Q} (I : Inv X pins σ H s) (rx : RelV x u) (ry : RelV y v) (hx : CR (kx X) M H d x) (hy : CR (kx X) M H e y) (h : inB d e = some b) (q : Q (.bl b) H) : wpAny (model X.prog X.w) X.A (compareOp .In u v) (EP X pins σ Q) X.xe s := by
  unfold inB at h
  split at h
  · rename_i hs
    have hyd := hy.dps hs.2
    obtain ⟨as, r1⟩ := Dp.reads I _ x u (hx.dps hs.1) rx
    obtain ⟨bs, r2⟩ := Dp.reads I _ y v hyd ry
    have s2 := SeqAt.canLay_of_shaped (shp_shaped hs.2)
    have o2 := shp_ok hs.2
    cases e with
    | lst ds =>
      cases h
      rw [D.py] at r2 s2
      exact SeqAt.in_list_reads r2 r1 (by rw [PyData.canLay0] at s2; exact s2) (SeqAt.canLay_of_shaped (shp_shaped hs.1)) (PyProof.Rows.room_in_shaped (shp_shaped hs.1) hu) ⟨.bl _, H, I, rfl, by rw [any_pys _ (shp_ok hs.1) _ (by rw [D.okB] at o2; exact o2)]; exact q⟩
    | tup ds =>
      cases h
      rw [D.py] at r2 s2
      exact SeqAt.in_tuple_reads r2 r1 (by rw [PyData.canLay0] at s2; exact s2) (SeqAt.canLay_of_shaped (shp_shaped hs.1)) (PyProof.Rows.room_in_shaped (shp_shaped hs.1) hu) ⟨.bl _, H, I, rfl, by rw [any_pys _ (shp_ok hs.1) _ (by rw [D.okB] at o2; exact o2)]; exact q⟩
    | _ => cases h
  · cases h
theorem notin_core (hu : X.A.units + 65 < cLine) {pins s σ H x y u v M d e b Q} (I : Inv X pins σ H s) (rx : RelV x u) (ry : RelV y v) (hx : CR (kx X) M H d x) (hy : CR (kx X) M H e y) (h : inB d e = some b) (q : Q (.bl (!b)) H) : wpAny (model X.prog X.w) X.A (compareOp .NotIn u v) (EP X pins σ Q) X.xe s := by
  unfold inB at h
  split at h
  · rename_i hs
    have hyd := hy.dps hs.2
    obtain ⟨as, r1⟩ := Dp.reads I _ x u (hx.dps hs.1) rx
    obtain ⟨bs, r2⟩ := Dp.reads I _ y v hyd ry
    have s2 := SeqAt.canLay_of_shaped (shp_shaped hs.2)
    have o2 := shp_ok hs.2
    cases e with
    | lst ds =>
      cases h
      rw [D.py] at r2 s2
      exact SeqAt.notIn_list_reads r2 r1 (by rw [PyData.canLay0] at s2; exact s2) (SeqAt.canLay_of_shaped (shp_shaped hs.1)) (PyProof.Rows.room_in_shaped (shp_shaped hs.1) hu) ⟨.bl _, H, I, rfl, by rw [any_pys _ (shp_ok hs.1) _ (by rw [D.okB] at o2; exact o2)]; exact q⟩
    | tup ds =>
      cases h
      rw [D.py] at r2 s2
      exact SeqAt.notIn_tuple_reads r2 r1 (by rw [PyData.canLay0] at s2; exact s2) (SeqAt.canLay_of_shaped (shp_shaped hs.1)) (PyProof.Rows.room_in_shaped (shp_shaped hs.1) hu) ⟨.bl _, H, I, rfl, by rw [any_pys _ (shp_ok hs.1) _ (by rw [D.okB] at o2; exact o2)]; exact q⟩
    | _ => cases h
  · cases h
theorem o_in (hu : X.A.units + 65 < cLine) : OpS X (compareOp .In) dIn := by
  intro pins s σ H x y u v M m ph dx dy val Q I rx ry r hx hy e g
  unfold dIn at e
  cases h : inB dx dy with
  | none => rw [h] at e; cases e
  | some b => rw [h] at e; cases e; exact in_core hu I rx ry hx hy h (g.bl r)
theorem o_notin (hu : X.A.units + 65 < cLine) : OpS X (compareOp .NotIn) dNotIn := by
  intro pins s σ H x y u v M m ph dx dy val Q I rx ry r hx hy e g
  unfold dNotIn at e
  cases h : inB dx dy with
  | none => rw [h] at e; cases e
  | some b => rw [h] at e; cases e; exact notin_core hu I rx ry hx hy h (g.bl r)

/-! is None -/
def isNonB : D → Bool
  | .non => true
  | _ => false
def dIs : D → D → Option Val := fun d e => match e with
  | .non => some (.d (.bl (isNonB d)))
  | _ => none
def dIsNot : D → D → Option Val := fun d e => match e with
  | .non => some (.d (.bl (!isNonB d)))
  | _ => none
theorem isNon_dec {K M H d x} (h : CR K M H d x) : decide (x = V.non) = isNonB d := by
  cases d with
  | non => rw [cr_non h]; rfl
  | bl b => rw [cr_bl h]; rfl
  | int b => rw [cr_int h]; rfl
  | str b => rw [cr_str h]; rfl
  | tup ds => obtain ⟨a, xs, e, _⟩ := cr_tup h; rw [e]; rfl
  | lst ds => obtain ⟨a, xs, e, _⟩ := cr_lst h; rw [e]; rfl
  | dic ks vs => obtain ⟨a, e, _⟩ := h; rw [e]; rfl
  | fz ns => obtain ⟨a, e, _⟩ := cr_fz h; rw [e]; rfl
theorem o_is : OpS X (compareOp .Is) dIs := by
  intro pins s σ H x y u v M m ph dx dy val Q I rx ry r hx hy e g
  cases dy with
  | non => cases e; exact op_isN pins s σ H x y u v Q I rx ry ⟨cr_non hy, by rw [isNon_dec hx]; exact g.bl r⟩
  | _ => cases e
theorem o_isnot : OpS X (compareOp .IsNot) dIsNot := by
  intro pins s σ H x y u v M m ph dx dy val Q I rx ry r hx hy e g
  cases dy with
  | non => cases e; exact op_notN pins s σ H x y u v Q I rx ry ⟨cr_non hy, by rw [isNon_dec hx]; exact g.bl r⟩
  | _ => cases e

/-! < <= > >= -/
def cmpOk (d e : D) : Bool := match d, e with
  | .int _, .int _ => true
  | .non, _ => false
  | d, e => shp d && shp e && PySem.W.alike d.py e.py
def ltB (d e : D) : Bool := match d, e with
  | .int i, .int j => decide (i < j)
  | d, e => PySem.W.dataLt d.py e.py
def leB (d e : D) : Bool := match d, e with
  | .int i, .int j => decide (i ≤ j)
  | d, e => !PySem.W.dataLt e.py d.py
def dLt : D → D → Option Val := fun d e => if cmpOk d e = true then some (.d (.bl (ltB d e))) else none
def dLe : D → D → Option Val := fun d e => if cmpOk d e = true then some (.d (.bl (leB d e))) else none
def dGt : D → D → Option Val := fun d e => if cmpOk d e = true then some (.d (.bl (ltB e d))) else none
def dGe : D → D → Option Val := fun d e => if cmpOk d e = true then some (.d (.bl (leB e d))) else none
theorem ltB_eq (d e : D) : ltB d e = PySem.W.dataLt d.py e.py := by
  unfold ltB
  split
  · rw [D.py, D.py, PySem.W.dataLt_int]
  · rfl
theorem leB_eq (d e : D) : leB d e = !PySem.W.dataLt e.py d.py := by
  unfold leB
  split
  · rw [D.py, D.py, PySem.W.dataLt_int, PySem.W.not_lt_int]
  · rfl
theorem cmp_ok {d e : D} (h : cmpOk d e = true) : (shp d = true ∧ shp e = true ∧ PySem.W.alike d.py e.py = true) ∧ d.py ≠ .none := by
  unfold cmpOk at h
  split at h
  · refine ⟨⟨?_, ?_, ?_⟩, by rw [D.py]; exact fun z => nomatch z⟩
    · rfl
    · rfl
    · rw [D.py, D.py]; rfl
  · cases h
  · rename_i h1 _
    rw [Bool.and_eq_true, Bool.and_eq_true] at h
    refine ⟨⟨h.1.1, h.1.2, h.2⟩, fun z => ?_⟩
    cases d with
    | non => exact h1 rfl
    | _ => rw [D.py] at z; cases z
theorem cmp_core {op : CmpOp} {k : D → D → Bool} (hk : ∀ {s : Shared} {a b : Value} {da db : D} {as bs : List Addr} {Q : Value → Shared → Prop} {E : Value → Shared → Prop}, Reads s.heap a da.py as → Reads s.heap b db.py bs → PySem.W.alike da.py db.py = true → da.py ≠ .none → X.A.units + min da.py.depth db.py.depth < cLine → Q (.bool (k da db)) s → wpAny (model X.prog X.w) X.A (compareOp op a b) Q E s)
    (hu : X.A.units + 64 < cLine) : OpS X (compareOp op) (fun d e => if cmpOk d e = true then some (.d (.bl (k d e))) else none) := by
  intro pins s σ H x y u v M m ph dx dy val Q I rx ry r hx hy e g
  have e : (if cmpOk dx dy = true then some (Val.d (D.bl (k dx dy))) else none) = some val := e
  split at e
  · rename_i h
    cases e
    obtain ⟨⟨h1, h2, h3⟩, h4⟩ := cmp_ok h
    obtain ⟨as, r1⟩ := Dp.reads I _ x u (hx.dps h1) rx
    obtain ⟨bs, r2⟩ := Dp.reads I _ y v (hy.dps h2) ry
    exact hk r1 r2 h3 h4 (SeqAt.room_of_shaped (shp_shaped h1) hu) ⟨.bl _, H, I, rfl, g.bl r⟩
  · cases e
theorem o_lt (hu : X.A.units + 64 < cLine) : OpS X (compareOp .Lt) dLt := cmp_core (fun r1 r2 h1 h2 h3 q => PySem.W.lt_data r1 r2 h1 h2 h3 (by rw [← ltB_eq]; exact q)) hu
theorem o_gt (hu : X.A.units + 64 < cLine) : OpS X (compareOp .Gt) dGt := cmp_core (k := fun d e => ltB e d) (fun r1 r2 h1 h2 h3 q => PySem.W.gt_data r1 r2 h1 h2 h3 (by rw [← ltB_eq]; exact q)) hu
theorem o_le (hu : X.A.units + 64 < cLine) : OpS X (compareOp .LtE) dLe := cmp_core (fun r1 r2 h1 h2 h3 q => PySem.W.le_data r1 r2 h1 h2 h3 (by rw [← leB_eq]; exact q)) hu
theorem o_ge (hu : X.A.units + 64 < cLine) : OpS X (compareOp .GtE) dGe := cmp_core (k := fun d e => leB e d) (fun r1 r2 h1 h2 h3 q => PySem.W.ge_data r1 r2 h1 h2 h3 (by rw [← leB_eq]; exact q)) hu

/-! arithmetic -/
def dAdd : D → D → Option Val
  | .int i, .int j => some (.d (.int (i + j)))
  | .str x, .str y => if x.length + y.length ≤ lim then some (.d (.str (x ++ y))) else none
  | .tup xs, .tup ys => if xs.length + ys.length ≤ lim then some (.d (.tup (xs ++ ys))) else none
  | .lst xs, .lst ys => if xs.length + ys.length ≤ lim then some (.own (.lst (xs ++ ys))) else none
  | _, _ => none
theorem rep_tup {K M H ds a xs} (t : TupAt K M H a xs) (r : Reps K M H ds xs) : Rep K M H (.tup ds) (.ref a) := by
  rw [Rep]; exact ⟨a, xs, rfl, t, r⟩
theorem o_add : OpS X (binaryOp .Add) dAdd := by
  intro pins s σ H x y u v M m ph dx dy val Q I rx ry r hx hy e g
  unfold dAdd at e
  split at e
  · cases e
    exact op_add pins s σ H x y u v Q I rx ry ⟨_, _, cr_int hx, cr_int hy, g.int r⟩
  · split at e
    · rename_i hl
      cases e
      refine op_add_str pins s σ H x y u v Q I rx ry ⟨_, _, cr_str hx, cr_str hy, ?_, ?_⟩
      · simp only [Str.length, List.size_toArray]; exact lim_line hl
      · have := g.str r
        rw [show (⟨_⟩ : Str) ++ ⟨_⟩ = ⟨_⟩ from rfl]
        simpa using this
    · cases e
  · split at e
    · rename_i xs ys hl
      cases e
      obtain ⟨a, vs, rfl, t1, r1⟩ := cr_tup hx
      obtain ⟨b, ws, rfl, t2, r2⟩ := cr_tup hy
      refine op_catA pins s σ H _ _ u v Q I rx ry ⟨a, b, vs, ws, rfl, rfl, t1.sq, t2.sq, by rw [r1.length, r2.length]; exact lim_line hl, fun e => ?_, fun _ e => ?_, fun _ _ => g.tup r (r1.append r2)⟩
      · subst e
        have : xs = [] := by have := r1.length; simpa using this.symm
        subst this
        exact g.dat r (rep_tup t2 r2)
      · subst e
        have : ys = [] := by have := r2.length; simpa using this.symm
        subst this
        rw [List.append_nil] at g
        exact g.dat r (rep_tup t1 r1)
    · cases e
  · split at e
    · rename_i xs ys hl
      cases e
      obtain ⟨a, vs, rfl, t1, r1⟩ := cr_lst hx
      obtain ⟨b, ws, rfl, t2, r2⟩ := cr_lst hy
      exact op_cat pins s σ H _ _ u v Q I rx ry ⟨a, b, vs, ws, rfl, rfl, t1, t2, by rw [r1.length, r2.length]; exact lim_line hl, g.lst r (r1.append r2)⟩
    · cases e
  · cases e
def dSub : D → D → Option Val
  | .int i, .int j => some (.d (.int (i - j)))
  | _, _ => none
theorem o_sub : OpS X (binaryOp .Sub) dSub := by
  intro pins s σ H x y u v M m ph dx dy val Q I rx ry r hx hy e g
  unfold dSub at e
  split at e
  · cases e
    exact op_sub pins s σ H x y u v Q I rx ry ⟨_, _, cr_int hx, cr_int hy, g.int r⟩
  · cases e
/-- the bits that a product may have -/
def mulOk (i j : Int) : Bool := decide (i.natAbs < 18446744073709551616) || decide (j.natAbs < 18446744073709551616)
/-- what may be divided by -/
def divOk (j : Int) : Bool := decide (0 < j) && decide (j.natAbs < 1073741824)
def dMul : D → D → Option Val
  | .int i, .int j => if mulOk i j = true then some (.d (.int (i * j))) else none
  | .tup xs, .int k => if xs ≠ [] ∧ 2 ≤ k ∧ k ≤ 1000 ∧ xs.length ≤ 1000 then some (.d (.tup (List.replicate k.toNat xs).flatten)) else none
  | .lst xs, .int k => if xs.length ≤ 1000 ∧ -1000 ≤ k ∧ k ≤ 1000 then some (.own (.lst (List.replicate k.toNat xs).flatten)) else none
  | _, _ => none
theorem Reps.repl {K : Kx} {M : Addr → Prop} {H : Hp} {ds : List D} {xs : List V} (h : Reps K M H ds xs) : ∀ k : Nat, Reps K M H (List.replicate k ds).flatten (List.replicate k xs).flatten
  | 0 => Reps.nil
  | k + 1 => by
    rw [List.replicate_succ, List.replicate_succ, List.flatten_cons, List.flatten_cons]
    exact h.append (h.repl k)
theorem o_mul : OpS X (binaryOp .Mult) dMul := by
  intro pins s σ H x y u v M m ph dx dy val Q I rx ry r hx hy e g
  unfold dMul at e
  split at e
  · split at e
    · rename_i h
      cases e
      refine op_mul pins s σ H x y u v Q I rx ry ⟨_, _, cr_int hx, cr_int hy, ?_, g.int r⟩
      unfold mulOk at h
      rw [Bool.or_eq_true, decide_eq_true_eq, decide_eq_true_eq] at h
      exact h.imp (fun h => ⟨by omega, by omega⟩) fun h => ⟨by omega, by omega⟩
    · cases e
  · split at e
    · rename_i xs k h
      cases e
      obtain ⟨a, vs, rfl, t1, r1⟩ := cr_tup hx
      refine op_repT pins s σ H _ _ u v Q I rx ry ⟨a, k, vs, rfl, cr_int hy, t1.sq, fun e => h.1 ?_, h.2.1, h.2.2.1, by rw [r1.length]; exact h.2.2.2, g.tup r (r1.repl _)⟩
      subst e
      have := r1.length; simpa using this.symm
    · cases e
  · split at e
    · rename_i xs k h
      cases e
      obtain ⟨a, vs, rfl, t1, r1⟩ := cr_lst hx
      refine op_rep pins s σ H _ _ u v Q I rx ry ⟨a, k, vs, rfl, cr_int hy, t1, by omega, by omega, ?_, g.lst r (r1.repl _)⟩
      rw [r1.length]
      refine lim_line (Nat.le_trans (Nat.mul_le_mul h.1 (show k.toNat ≤ 1000 by omega)) (by decide))
    · cases e
  · cases e
def dDiv : D → D → Option Val
  | .int i, .int j => if divOk j = true then some (.d (.int (i / j))) else none
  | _, _ => none
theorem o_div : OpS X (binaryOp .FloorDiv) dDiv := by
  intro pins s σ H x y u v M m ph dx dy val Q I rx ry r hx hy e g
  unfold dDiv at e
  split at e
  · split at e
    · rename_i h
      cases e
      unfold divOk at h
      rw [Bool.and_eq_true, decide_eq_true_eq, decide_eq_true_eq] at h
      exact op_fdiv pins s σ H x y u v Q I rx ry ⟨_, _, cr_int hx, cr_int hy, ⟨h.1, by omega⟩, g.int r⟩
    · cases e
  · cases e
def dMod : D → D → Option Val
  | .int i, .int j => if 0 < j then some (.d (.int (i % j))) else none
  | _, _ => none
theorem o_mod : OpS X (binaryOp .Mod) dMod := by
  intro pins s σ H x y u v M m ph dx dy val Q I rx ry r hx hy e g
  unfold dMod at e
  split at e
  · split at e
    · rename_i h
      cases e
      exact op_mod pins s σ H x y u v Q I rx ry ⟨_, _, cr_int hx, cr_int hy, h, g.int r⟩
    · cases e
  · cases e
def dPow : D → D → Option Val
  | .int i, .int j => if 0 ≤ j ∧ j ≤ 1000 ∧ i.natAbs < 2 ^ 64 then some (.d (.int (i ^ j.toNat))) else none
  | _, _ => none
theorem o_pow : OpS X (binaryOp .Pow) dPow := by
  intro pins s σ H x y u v M m ph dx dy val Q I rx ry r hx hy e g
  unfold dPow at e
  split at e
  · split at e
    · rename_i h
      cases e
      exact op_pow pins s σ H x y u v Q I rx ry ⟨_, _, cr_int hx, cr_int hy, ⟨h.1, by omega, h.2.2⟩, g.int r⟩
    · cases e
  · cases e
end
end Pyp

/-! Chains, subscripts, slices, calls of builtins. -/
namespace Pyp
open PySem L2

section
variable {X : Cx} {W : WX} {a b c e : Expr} {xa xb xc xe : Ex} {pos : Pos}

/-! -a -/
def eNeg (x : Ex) : Ex := fun env ph => (x env ph).bind fun v ph1 => match v with
  | .d (.int i) => .ok (.d (.int (-i))) ph1
  | _ => .bad
theorem s_neg (h : SE X W a xa) : SE X W (.UnaryOp .USub a pos) (eNeg xa) := ⟨fun M m σ H env ph r er Q q => tW_of (pe_un un_neg tW_pe) (by
  refine h.bind r er q fun v ph1 w H1 fr r1 er1 rv _ q1 => ?_
  cases v with
  | d d =>
    cases d with
    | int i =>
      rw [RV, Rep] at rv
      exact ⟨i, rv, q1 _ H1 fr r1 (by rw [RV, Rep]) RO.d⟩
    | _ => exact q1.elim
  | _ => exact q1.elim)⟩

/-! a < b < c -/
def eChain (f g : D → D → Option Val) (a b c : Ex) : Ex := fun env ph => (a env ph).bind fun va ph1 => (b env ph1).bind fun vb ph2 => match va, vb with
  | .d x, .d y => match f x y with
    | some (.d (.bl true)) => (c env ph2).bind fun vc ph3 => match vc.cont ph3 with
      | some z => Res.of (g y z) ph3
      | _ => .bad
    | some (.d (.bl false)) => .ok (.d (.bl false)) ph2
    | _ => .bad
  | _, _ => .bad
theorem chain_core {f g : D → D → Option Val} {F G : Value → Value → Sem Value} (ho : OpS X F f) (ho' : OpS X G g) (ha : SE X W a xa) (hb : SE X W b xb) (hc : SE X W c xc) {M m σ H env ph Q} (r : Rel (kx X) M m H ph) (er : EnvR (kx X) M m σ H env)
    (q : Post X W M m σ H (GE X M m H Q) (eChain f g xa xb xc env ph)) : tChain (rW X F) (rW X G) (tW X a) (tW X b) (tW X c) σ H Q := by
  refine ha.bind r er q fun va ph1 v1 H1 fr1 r1 er1 rv1 _ q1 => ?_
  refine hb.bind r1 er1 q1 fun vb ph2 v2 H2 fr2 r2 er2 rv2 _ q2 => ?_
  cases va with
  | d dx =>
    cases vb with
    | d dy =>
      have rx2 : CR (kx X) M H2 dx v1 := (rv1.keep r1 fr2).cr r2 rfl
      have ry2 : CR (kx X) M H2 dy v2 := rv2.cr r2 rfl
      have q3 : Post X W M m σ H2 (GE X M m H Q) (match f dx dy with
        | some (.d (.bl true)) => (xc env ph2).bind fun vc ph3 => match vc.cont ph3 with
          | some z => Res.of (g dy z) ph3
          | _ => .bad
        | some (.d (.bl false)) => .ok (.d (.bl false)) ph2
        | _ => .bad) := q2
      intro pins s σ' u v I rx ry
      split at q3
      · rename_i ef
        refine ho pins s σ' H2 v1 v2 u v M m ph2 dx dy (.d (.bl true)) _ I rx ry r2 rx2 ry2 ef fun z H3 f3 r3 rv3 _ => ?_
        rw [RV, Rep] at rv3
        refine ⟨true, rv3, ?_⟩
        rw [if_pos rfl]
        refine hc.bind r3 (er2.keep r2 f3) (Post.step f3 q3) fun vc ph4 v4 H4 fr4 r4 er4 rv4 _ q4 => ?_
        split at q4
        · rename_i dz ez
          obtain ⟨val, ev, gg⟩ := Post.of (Q := Q) (M := M) (m := m) (H := H4) (X := X) (W := W) (σ := σ) (o := g dy dz) (ph := ph4) (Post.mono (fun _ _ g => GE.at (((fr1.trans fr2).trans f3).trans fr4) r4 g) q4)
          intro pins s σ' u v I rx ry
          exact ho' pins s σ' H4 v2 v4 u v M m ph4 dy dz val Q I rx ry r4 ((((rv2.keep r2 f3).keep r3 fr4)).cr r4 rfl) (rv4.cr r4 ez) ev gg
        · exact q4.elim
      · rename_i ef
        refine ho pins s σ' H2 v1 v2 u v M m ph2 dx dy (.d (.bl false)) _ I rx ry r2 rx2 ry2 ef fun z H3 f3 r3 rv3 _ => ?_
        rw [RV, Rep] at rv3
        refine ⟨false, rv3, ?_⟩
        rw [if_neg Bool.false_ne_true]
        exact q3 _ H3 ((fr1.trans fr2).trans f3) r3 rv_bl RO.d
      · exact q3.elim
    | _ => exact q2.elim
  | _ => exact q2.elim
theorem s_chain {op op' : CmpOp} {f g : D → D → Option Val} (ho : OpS X (compareOp op) f) (ho' : OpS X (compareOp op') g) (ha : SE X W a xa) (hb : SE X W b xb) (hc : SE X W c xc) (hm : lastMarks [op, op'] [b, c] = false := by with_unfolding_all rfl) :
    SE X W (.Compare a [op, op'] [b, c] pos) (eChain f g xa xb xc) := ⟨fun M m σ H env ph r er Q q => tW_of (pe_chain rW_op rW_op tW_pe tW_pe tW_pe hm) (chain_core ho ho' ha hb hc r er q)⟩
theorem t_chain {op op' : CmpOp} {f g : D → D → Option Val} (ho : OpS X (compareOp op) f) (ho' : OpS X (compareOp op') g) (ha : SE X W a xa) (hb : SE X W b xb) (hc : SE X W c xc) (hm : lastMarks [op, op'] [b, c] = false := by with_unfolding_all rfl) :
    ST X W (.Compare a [op, op'] [b, c] pos) (tB (eChain f g xa xb xc)) := ⟨fun M m σ H env ph r er Q q => tWT_of (pt_chain rW_op rW_op tW_pe tW_pe tW_pe hm) (chain_core ho ho' ha hb hc r er (Post.tB q))⟩

/-! a[i] -/
def dIx : D → D → Option Val
  | .tup ds, .int i => (atI ds i).map .d
  | .lst ds, .int i => (atI ds i).map .d
  | .fz ns, .int i => (atI ns i).map fun n => .d (.int n)
  | .str x, .int i => if x.length ≤ lim then (atI x i).map fun c => .d (.str [c]) else none
  | _, _ => none
theorem atI_rep {K M H} {ds : List D} {xs : List V} (r : Reps K M H ds xs) {i : Int} {d : D} (e : atI ds i = some d) : ∃ v, atI xs i = some v ∧ Rep K M H d v := by
  unfold atI at e ⊢
  rw [r.length]
  cases h : ixN ds.length i with
  | none => rw [h] at e; cases e
  | some j =>
    rw [h] at e
    exact r.get e
theorem atI_map {α β : Type} {xs : List α} {i : Int} {x : α} {f : α → β} (h : atI xs i = some x) : atI (xs.map f) i = some (f x) := by
  unfold atI at h ⊢
  rw [List.length_map]
  cases q : ixN xs.length i with
  | none => rw [q] at h; cases h
  | some j =>
    rw [q] at h
    show (xs.map f)[j]? = _
    rw [List.getElem?_map, show xs[j]? = some x from h]; rfl
def rWI (X : Cx) : R2 := fun x y H Q => ∃ (t : Bool) (p : Addr) (xs : List V) (i : Int) (v : V), x = .ref p ∧ y = .int i ∧ Sq t X.K H p xs ∧ atI xs i = some v ∧ Q v H
theorem s_ix (ha : SE X W a xa) (hb : SE X W b xb) (hs : PlainIx b := by exact fun _ _ => rfl) : SE X W (.Subscript a b pos) (eBin dIx xa xb) := ⟨fun M m σ H env ph r er Q q => tW_of (pe_ix ix_seq tW_pe tW_pe hs) (by
  refine ha.bind r er q fun va ph1 v1 H1 fr1 r1 er1 rv1 _ q1 => ?_
  refine hb.bind r1 er1 q1 fun vb ph2 v2 H2 fr2 r2 er2 rv2 _ q2 => ?_
  split at q2
  · rename_i dx dy e1 e2
    obtain ⟨val, ev, g⟩ := Post.of (Q := Q) (M := M) (m := m) (H := H2) (X := X) (W := W) (σ := σ) (o := dIx dx dy) (ph := ph2) (Post.mono (fun _ _ g => GE.at (fr1.trans fr2) r2 g) q2)
    have c1 := (rv1.keep r1 fr2).cr r2 e1
    have c2 := rv2.cr r2 e2
    unfold dIx at ev
    split at ev
    · rename_i ds i
      cases h : atI ds i with
      | none => rw [h] at ev; cases ev
      | some d =>
        rw [h] at ev; cases ev
        obtain ⟨p, xs, rfl, t, rs⟩ := cr_tup c1
        obtain ⟨v, ea, rv⟩ := atI_rep rs h
        exact .inr (.inl ⟨p, xs, i, v, rfl, cr_int c2, t.sq, ea, g.dat r2 rv⟩)
    · rename_i ds i
      cases h : atI ds i with
      | none => rw [h] at ev; cases ev
      | some d =>
        rw [h] at ev; cases ev
        obtain ⟨p, xs, rfl, t, rs⟩ := cr_lst c1
        obtain ⟨v, ea, rv⟩ := atI_rep rs h
        exact .inl ⟨p, xs, i, v, rfl, cr_int c2, SqL.of t, ea, g.dat r2 rv⟩
    · rename_i ns i
      cases h : atI ns i with
      | none => rw [h] at ev; cases ev
      | some n =>
        rw [h] at ev; cases ev
        obtain ⟨p, rfl, t⟩ := cr_fz c1
        exact .inl ⟨p, _, i, .int n, rfl, cr_int c2, t.sq, atI_map h, g.int r2⟩
    · rename_i x i
      split at ev
      · rename_i hl
        cases h : atI x i with
        | none => rw [h] at ev; cases ev
        | some d =>
          rw [h] at ev; cases ev
          refine .inr (.inr ⟨_, i, d, cr_str c1, cr_int c2, ?_, by simpa using h, ?_⟩)
          · simp only [Str.length, List.size_toArray]; exact lim_line hl
          · exact g.str r2
      · cases ev
    · cases ev
  · exact q2.elim)⟩

theorem reps_ints {K M H} : ∀ ns : List Int, Reps K M H (ns.map D.int) (ns.map V.int)
  | [] => Reps.nil
  | n :: ns => .cons (by rw [Rep]) (reps_ints ns)
/-! a[lo:hi] -/
abbrev Px := Env → PH → Res (Option Int)
structure SP (X : Cx) (W : WX) (o : Option Expr) (x : Px) : Prop where
  run : ∀ M m σ H env ph, Rel (kx X) M m H ph → EnvR (kx X) M m σ H env → ∀ Q, Post X W M m σ H (fun i ph' => ∀ H', Frame m H H' → Rel (kx X) M m H' ph' → Q i H') (x env ph) → ∃ t, PO X o t ∧ t σ H Q
def pNo : Px := fun _ ph => .ok none ph
def pAt (x : Ex) : Px := fun env ph => (x env ph).bind fun v ph1 => match v with
  | .d (.int i) => .ok (some i) ph1
  | _ => .bad
theorem p_no : SP X W none pNo := ⟨fun M m σ H env ph r er Q q => ⟨_, po_none, q H Frame.refl r⟩⟩
theorem p_at (h : SE X W a xa) : SP X W (some a) (pAt xa) := ⟨fun M m σ H env ph r er Q q => ⟨_, po_some tW_pe, by
  refine h.bind r er q fun v ph1 w H1 fr r1 er1 rv _ q1 => ?_
  cases v with
  | d d =>
    cases d with
    | int i =>
      rw [RV, Rep] at rv
      exact ⟨i, rv, q1 H1 fr r1⟩
    | _ => exact q1.elim
  | _ => exact q1.elim⟩⟩
def tWP (X : Cx) (o : Option Expr) : TO := fun σ H Q => ∀ pins s, Inv X pins σ H s → wpAny (model X.prog X.w) X.A (evalPart o X.env) (fun u s' => ∃ i H', Inv X pins σ H' s' ∧ IsPart u i ∧ Q i H') X.xe s
theorem tWP_po {o : Option Expr} : PO X o (tWP X o) := ⟨fun pins s σ H Q I h => h pins s I⟩
theorem tWP_of {o : Option Expr} {σ : L2.St} {H : Hp} {Q : Option Int → Hp → Prop} (h : ∃ t, PO X o t ∧ t σ H Q) : tWP X o σ H Q := fun pins s I => let ⟨_, p, q⟩ := h; p.run pins s σ H Q I q
theorem SP.bind {o : Option Expr} {x : Px} {α : Type} {G : α → PH → Prop} {f : Option Int → PH → Res α} (h : SP X W o x) {M m σ H env ph} (r : Rel (kx X) M m H ph) (er : EnvR (kx X) M m σ H env) {Q : Option Int → Hp → Prop} (q : Post X W M m σ H G ((x env ph).bind f))
    (k : ∀ i ph1 H1, Frame m H H1 → Rel (kx X) M m H1 ph1 → EnvR (kx X) M m σ H1 env → Post X W M m σ H1 G (f i ph1) → Q i H1) : tWP X o σ H Q := by
  refine tWP_of (h.run M m σ H env ph r er Q ?_)
  cases hx : x env ph with
  | ok val ph1 => rw [hx] at q; exact fun H1 fr r1 => k val ph1 H1 fr r1 (er.keep r fr) (Post.step fr q)
  | exc c fs ph1 => rw [hx] at q; exact q
  | bad => rw [hx] at q; exact q
def cutL {α : Type} (ds : List α) (lo hi : Option Int) : List α := (ds.drop (HT.sIx ds.length 0 lo)).take (HT.sIx ds.length ds.length hi - HT.sIx ds.length 0 lo)
theorem cutL_rep {K M H} {ds : List D} {xs : List V} (r : Reps K M H ds xs) (lo hi : Option Int) : Reps K M H (cutL ds lo hi) (cutV xs lo hi) := by
  unfold cutL cutV
  rw [r.length]
  exact (r.drop _).take _
theorem cutL_whole {α : Type} {ds : List α} {lo hi : Option Int} (h : HT.sIx ds.length 0 lo = 0 ∧ HT.sIx ds.length ds.length hi = ds.length) : cutL ds lo hi = ds := by
  unfold cutL
  rw [h.1, h.2]
  simp
def dCut (d : D) (lo hi : Option Int) : Option Val := match d with
  | .tup ds => some (.d (.tup (cutL ds lo hi)))
  | .lst ds => some (.own (.lst (cutL ds lo hi)))
  | .fz ns => some (.own (.lst ((cutL ns lo hi).map .int)))
  | .str x => if x.length ≤ lim then some (.d (.str (cutL x lo hi))) else none
  | _ => none
def eCut (a : Ex) (lo hi : Px) : Ex := fun env ph => (a env ph).bind fun v ph1 => (lo env ph1).bind fun l ph2 => (hi env ph2).bind fun h ph3 => match v.cont ph3 with
  | some d => Res.of (dCut d l h) ph3
  | none => .bad
theorem s_cut {lo hi : Option Expr} {xl xh : Px} {p2 : Pos} (ha : SE X W a xa) (hl : SP X W lo xl) (hh : SP X W hi xh) : SE X W (.Subscript a (.Slice lo hi none p2) pos) (eCut xa xl xh) := ⟨fun M m σ H env ph r er Q q => tW_of (pe_slice (sl_tupA.or (sl_list.or sl_str)) tW_pe tWP_po tWP_po) (by
  refine ha.bind r er q fun va ph1 v1 H1 fr1 r1 er1 rv1 _ q1 => ?_
  refine hl.bind r1 er1 q1 fun l ph2 H2 fr2 r2 er2 q2 => ?_
  refine hh.bind r2 er2 q2 fun h ph3 H3 fr3 r3 er3 q3 => ?_
  split at q3
  · rename_i d ed
    obtain ⟨val, ev, g⟩ := Post.of (Q := Q) (M := M) (m := m) (H := H3) (X := X) (W := W) (σ := σ) (o := dCut d l h) (ph := ph3) (Post.mono (fun _ _ g => GE.at ((fr1.trans fr2).trans fr3) r3 g) q3)
    have c := ((rv1.keep r1 fr2).keep r2 fr3).cr r3 ed
    cases d with
    | tup ds =>
      cases ev
      obtain ⟨p, xs, rfl, t, rs⟩ := cr_tup c
      refine .inl ⟨p, xs, rfl, t.sq, fun hw => ?_, fun _ => g.tup r3 (cutL_rep rs l h)⟩
      rw [rs.length] at hw
      rw [cutL_whole hw] at g
      exact g.dat r3 (rep_tup t rs)
    | lst ds =>
      cases ev
      obtain ⟨p, xs, rfl, t, rs⟩ := cr_lst c
      exact .inr (.inl ⟨p, xs, rfl, SqL.of t, g.lst r3 (cutL_rep rs l h)⟩)
    | fz ns =>
      cases ev
      obtain ⟨p, rfl, t⟩ := cr_fz c
      refine .inr (.inl ⟨p, _, rfl, t.sq, g.lst r3 ?_⟩)
      have e : cutV (ns.map V.int) l h = (cutL ns l h).map V.int := by
        unfold cutV cutL
        rw [List.length_map, List.map_take, List.map_drop]
      rw [e]
      exact reps_ints _
    | str x =>
      have ev : (if x.length ≤ lim then some (Val.d (.str (cutL x l h))) else none) = some val := ev
      split at ev
      · rename_i hle
        cases ev
        refine .inr (.inr ⟨_, cr_str c, ?_, ?_⟩)
        · simp only [Str.length, List.size_toArray]; exact lim_line hle
        · have e : cutS ⟨x.toArray⟩ l h = ⟨(cutL x l h).toArray⟩ := by
            unfold cutS cutL
            simp [Str.length]
          rw [e]; exact g.str r3
      · cases ev
    | _ => cases ev
  · exact q3.elim)⟩

/-! calls of builtins -/
def CRs (K : Kx) (M : Addr → Prop) (H : Hp) : List D → List V → Prop
  | [], vs => vs = []
  | d :: ds, vs => ∃ w ws, vs = w :: ws ∧ CR K M H d w ∧ CRs K M H ds ws
def conts (ph : PH) : List Val → Option (List D)
  | [] => some []
  | x :: xs => match x.cont ph, conts ph xs with
    | some d, some ds => some (d :: ds)
    | _, _ => none
theorem RVs.crs {K M m H0 H ph} (r : Rel K M m H ph) : ∀ {xs : List Val} {vs : List V} {ds : List D}, RVs K M m H0 H vs xs → conts ph xs = some ds → CRs K M H ds vs
  | [], vs, ds, h, e => by cases e; exact h
  | x :: xs, vs, ds, ⟨w, ws, e1, h1, h2⟩, e => by
    unfold conts at e
    split at e
    · rename_i d ds' q1 q2
      cases e
      exact ⟨w, ws, e1, h1.cr r q1, RVs.crs r h2 q2⟩
    · cases e
def BlS (X : Cx) (F : Value) (f : List D → Option Val) : Prop := ∀ pins s σ H vs us M m ph ds val Q, Inv X pins σ H s → Vals vs us → Rel (kx X) M m H ph → CRs (kx X) M H ds vs → f ds = some val → GE X M m H Q val ph → wpAny (model X.prog X.w) X.A (call F us) (EP X pins σ Q) X.xe s
def rWB (X : Cx) (F : Value) : List V → Hp → VK → Prop := fun vs H Q => ∀ pins s σ us, Inv X pins σ H s → Vals vs us → wpAny (model X.prog X.w) X.A (call F us) (EP X pins σ Q) X.xe s
theorem rWB_cr {F : Value} : CallR X F (rWB X F) := fun pins s σ H xs us Q I r h => h pins s σ us I r
def eB (f : List D → Option Val) (xs : Ax) : Ex := fun env ph => (xs env ph).bind fun vs ph1 => match conts ph1 vs with
  | some ds => Res.of (f ds) ph1
  | none => .bad
theorem bl_core {F : Value} {f : List D → Option Val} (ho : BlS X F f) {es : List Expr} {xs : Ax} (h : SA X W es xs) {M m σ H env ph Q} (r : Rel (kx X) M m H ph) (er : EnvR (kx X) M m σ H env) (q : Post X W M m σ H (GE X M m H Q) (eB f xs env ph)) :
    tCB (rWB X F) (tWA X es) σ H Q := by
  refine h.bind r er q fun vs ph1 ws H1 fr r1 er1 rv q1 => ?_
  split at q1
  · rename_i ds ed
    obtain ⟨val, ev, g⟩ := Post.of (Q := Q) (M := M) (m := m) (H := H1) (X := X) (W := W) (σ := σ) (o := f ds) (ph := ph1) (Post.mono (fun _ _ g => GE.at fr r1 g) q1)
    intro pins s σ' us I rv'
    exact ho pins s σ' H1 ws us M m ph1 ds val Q I rv' r1 (rv.crs r1 ed) ev g
  · exact q1.elim
theorem s_bl1 {id : String} {x : Str} {es : List Expr} {xs : Ax} {p : Pos} {f : List D → Option Val} (ho : BlS X (.builtin id) f) (hm : X.mg x = none) (hv : bootBuiltins x = some (.builtin id)) (h : SA X W (e :: es) xs) (hg : Gl X x := by rfl) (hn : x ≠ "__name__" := by decide) (hdb : (x == ("__debug__" : Str)) = false := by decide)
    (he : starEach (e :: es) X.env = (false, eval e X.env) :: starEach es X.env := by rfl) (hpl : (backTo pos (starEach es X.env)).any (·.1) = false := by rfl) : SE X W (.Call (.Name x p) (e :: es) [] pos) (eB f xs) :=
  ⟨fun M m σ H env ph r er Q q => tW_of (pe_callB rWB_cr hg hm hv tWA_pa hn hdb he hpl) (bl_core ho h r er q)⟩
theorem s_ty1 {T : String} {x : Str} {es : List Expr} {xs : Ax} {p : Pos} {f : List D → Option Val} (ho : BlS X (.type T) f) (hm : X.mg x = none) (hv : bootBuiltins x = some (.type T)) (h : SA X W (e :: es) xs) (hg : Gl X x := by rfl) (hn : x ≠ "__name__" := by decide) (hdb : (x == ("__debug__" : Str)) = false := by decide)
    (he : starEach (e :: es) X.env = (false, eval e X.env) :: starEach es X.env := by rfl) (hpl : (backTo pos (starEach es X.env)).any (·.1) = false := by rfl) : SE X W (.Call (.Name x p) (e :: es) [] pos) (eB f xs) :=
  ⟨fun M m σ H env ph r er Q q => tW_of (pe_callTy rWB_cr hg hm hv tWA_pa hn hdb he hpl) (bl_core ho h r er q)⟩
theorem crs1 {K M H d vs} (h : CRs K M H [d] vs) : ∃ v, vs = [v] ∧ CR K M H d v := by
  obtain ⟨w, ws, e, h1, h2⟩ := h
  cases (show ws = [] from h2)
  exact ⟨w, e, h1⟩
theorem crs2 {K M H d d' vs} (h : CRs K M H [d, d'] vs) : ∃ v v', vs = [v, v'] ∧ CR K M H d v ∧ CR K M H d' v' := by
  obtain ⟨w, ws, e, h1, h2⟩ := h
  obtain ⟨v', e', h3⟩ := crs1 h2
  subst e'
  exact ⟨w, v', e, h1, h3⟩
/-! len -/
def bLen : List D → Option Val
  | [.tup ds] => some (.d (.int ds.length))
  | [.lst ds] => some (.d (.int ds.length))
  | [.fz ns] => some (.d (.int ns.length))
  | [.str x] => if x.length ≤ lim then some (.d (.int x.length)) else none
  | _ => none
theorem b_len : BlS X (.builtin "len") bLen := by
  intro pins s σ H vs us M m ph ds val Q I rv r hc e g
  unfold bLen at e
  split at e
  · cases e
    obtain ⟨v, rfl, c⟩ := crs1 hc
    obtain ⟨p, xs, rfl, t, rs⟩ := cr_tup c
    exact call_len_seq pins s σ H _ us Q I rv ⟨p, xs, rfl, .inr t.sq, by rw [rs.length]; exact g.int r⟩
  · cases e
    obtain ⟨v, rfl, c⟩ := crs1 hc
    obtain ⟨p, xs, rfl, t, rs⟩ := cr_lst c
    exact call_len_seq pins s σ H _ us Q I rv ⟨p, xs, rfl, .inl (SqL.of t), by rw [rs.length]; exact g.int r⟩
  · cases e
    obtain ⟨v, rfl, c⟩ := crs1 hc
    obtain ⟨p, rfl, t⟩ := cr_fz c
    exact call_len_seq pins s σ H _ us Q I rv ⟨p, _, rfl, .inl t.sq, by rw [List.length_map]; exact g.int r⟩
  · split at e
    · rename_i hl
      cases e
      obtain ⟨v, rfl, c⟩ := crs1 hc
      refine call_len_str pins s σ H _ us Q I rv ⟨_, by rw [cr_str c], ?_, ?_⟩
      · simp only [Str.length, List.size_toArray]; exact lim_line hl
      · have := g.int r
        simpa [Str.length] using this
    · cases e
  · cases e
def bAbs : List D → Option Val
  | [.int i] => some (.d (.int (if i < 0 then -i else i)))
  | _ => none
theorem b_abs : BlS X (.builtin "abs") bAbs := by
  intro pins s σ H vs us M m ph ds val Q I rv r hc e g
  unfold bAbs at e
  split at e
  · cases e
    obtain ⟨v, rfl, c⟩ := crs1 hc
    exact call_abs pins s σ H _ us Q I rv ⟨_, by rw [cr_int c], g.int r⟩
  · cases e
def bInt : List D → Option Val
  | [.int i] => some (.d (.int i))
  | [.bl b] => some (.d (.int (if b then 1 else 0)))
  | _ => none
theorem b_int : BlS X (.type "int") bInt := by
  intro pins s σ H vs us M m ph ds val Q I rv r hc e g
  unfold bInt at e
  split at e
  · cases e
    obtain ⟨v, rfl, c⟩ := crs1 hc
    exact call_int1 pins s σ H _ us Q I rv (.inl ⟨_, by rw [cr_int c], g.int r⟩)
  · cases e
    obtain ⟨v, rfl, c⟩ := crs1 hc
    exact call_int1 pins s σ H _ us Q I rv (.inr ⟨_, by rw [cr_bl c], g.int r⟩)
  · cases e
def bTup : List D → Option Val
  | [.tup ds] => some (.d (.tup ds))
  | [.lst ds] => some (.d (.tup ds))
  | _ => none
theorem b_tup : BlS X (.type "tuple") bTup := by
  intro pins s σ H vs us M m ph ds val Q I rv r hc e g
  unfold bTup at e
  split at e
  · cases e
    obtain ⟨v, rfl, c⟩ := crs1 hc
    obtain ⟨p, xs, rfl, t, rs⟩ := cr_tup c
    exact call_tuple_of pins s σ H _ us Q I rv ⟨p, xs, rfl, .inr ⟨t.sq, g.dat r (rep_tup t rs)⟩⟩
  · cases e
    obtain ⟨v, rfl, c⟩ := crs1 hc
    obtain ⟨p, xs, rfl, t, rs⟩ := cr_lst c
    exact call_tuple_of pins s σ H _ us Q I rv ⟨p, xs, rfl, .inl ⟨SqL.of t, g.tup r rs⟩⟩
  · cases e
def bLst : List D → Option Val
  | [.tup ds] => some (.own (.lst ds))
  | [.lst ds] => some (.own (.lst ds))
  | _ => none
theorem b_lst : BlS X (.type "list") bLst := by
  intro pins s σ H vs us M m ph ds val Q I rv r hc e g
  unfold bLst at e
  split at e
  · cases e
    obtain ⟨v, rfl, c⟩ := crs1 hc
    obtain ⟨p, xs, rfl, t, rs⟩ := cr_tup c
    exact call_list_of pins s σ H _ us Q I rv ⟨p, xs, rfl, .inr t.sq, g.lst r rs⟩
  · cases e
    obtain ⟨v, rfl, c⟩ := crs1 hc
    obtain ⟨p, xs, rfl, t, rs⟩ := cr_lst c
    exact call_list_of pins s σ H _ us Q I rv ⟨p, xs, rfl, .inl (SqL.of t), g.lst r rs⟩
  · cases e
/-- rows of one sort -/
def bls : List D → Option (List Bool)
  | [] => some []
  | .bl b :: ds => (bls ds).map (b :: ·)
  | _ :: _ => none
def intsD : List D → Option (List Int)
  | [] => some []
  | .int b :: ds => (intsD ds).map (b :: ·)
  | _ :: _ => none
theorem bls_rep {K M H} : ∀ {ds : List D} {bs : List Bool} {xs : List V}, bls ds = some bs → Reps K M H ds xs → xs = bs.map V.bl
  | [], bs, xs, e, r => by cases e; rw [Reps] at r; exact r
  | .bl b :: ds, bs, xs, e, r => by
    rw [Reps] at r
    obtain ⟨v, vs, rfl, r1, r2⟩ := r
    rw [Rep] at r1
    subst r1
    unfold bls at e
    cases h : bls ds with
    | none => rw [h] at e; cases e
    | some cs => rw [h] at e; cases e; rw [bls_rep h r2]; rfl
theorem intsD_rep {K M H} : ∀ {ds : List D} {bs : List Int} {xs : List V}, intsD ds = some bs → Reps K M H ds xs → xs = bs.map V.int
  | [], bs, xs, e, r => by cases e; rw [Reps] at r; exact r
  | .int b :: ds, bs, xs, e, r => by
    rw [Reps] at r
    obtain ⟨v, vs, rfl, r1, r2⟩ := r
    rw [Rep] at r1
    subst r1
    unfold intsD at e
    cases h : intsD ds with
    | none => rw [h] at e; cases e
    | some cs => rw [h] at e; cases e; rw [intsD_rep h r2]; rfl
def bAll : List D → Option Val
  | [.lst ds] => (bls ds).map fun bs => .d (.bl (bs.all id))
  | _ => none
def bAny : List D → Option Val
  | [.lst ds] => (bls ds).map fun bs => .d (.bl (bs.any id))
  | _ => none
theorem b_all (hc : X.calm = true) : BlS X (.builtin "all") bAll := by
  intro pins s σ H vs us M m ph ds val Q I rv r h e g
  unfold bAll at e
  split at e
  · rename_i ds
    cases hb : bls ds with
    | none => rw [hb] at e; cases e
    | some bs =>
      rw [hb] at e; cases e
      obtain ⟨v, rfl, c⟩ := crs1 h
      obtain ⟨p, xs, rfl, t, rs⟩ := cr_lst c
      have ex := bls_rep hb rs
      subst ex
      exact cr_all hc pins s σ H _ us Q I rv ⟨p, bs, rfl, SqL.of t, g.bl r⟩
  · cases e
theorem b_any (hc : X.calm = true) : BlS X (.builtin "any") bAny := by
  intro pins s σ H vs us M m ph ds val Q I rv r h e g
  unfold bAny at e
  split at e
  · rename_i ds
    cases hb : bls ds with
    | none => rw [hb] at e; cases e
    | some bs =>
      rw [hb] at e; cases e
      obtain ⟨v, rfl, c⟩ := crs1 h
      obtain ⟨p, xs, rfl, t, rs⟩ := cr_lst c
      have ex := bls_rep hb rs
      subst ex
      exact cr_any hc pins s σ H _ us Q I rv ⟨p, bs, rfl, SqL.of t, g.bl r⟩
  · cases e
def maxL : List Int → Option Int
  | [] => none
  | n :: ns => some (ns.foldl max n)
def minL : List Int → Option Int
  | [] => none
  | n :: ns => some (ns.foldl min n)
theorem foldmax : ∀ (ns : List Int) (n : Int), (ns.foldl max n = n ∨ ns.foldl max n ∈ ns) ∧ n ≤ ns.foldl max n ∧ ∀ y ∈ ns, y ≤ ns.foldl max n
  | [], n => ⟨.inl rfl, Int.le_refl _, fun _ h => nomatch h⟩
  | k :: ns, n => by
    obtain ⟨h1, h2, h3⟩ := foldmax ns (max n k)
    rw [List.foldl_cons]
    refine ⟨?_, by omega, fun y hy => ?_⟩
    · rcases h1 with h1 | h1
      · rw [h1]
        by_cases hh : n ≤ k
        · right; rw [show max n k = k by omega]; simp
        · left; omega
      · right; exact List.mem_cons_of_mem _ h1
    · rcases List.mem_cons.mp hy with e | hy
      · subst e; omega
      · exact h3 y hy
theorem foldmin : ∀ (ns : List Int) (n : Int), (ns.foldl min n = n ∨ ns.foldl min n ∈ ns) ∧ ns.foldl min n ≤ n ∧ ∀ y ∈ ns, ns.foldl min n ≤ y
  | [], n => ⟨.inl rfl, Int.le_refl _, fun _ h => nomatch h⟩
  | k :: ns, n => by
    obtain ⟨h1, h2, h3⟩ := foldmin ns (min n k)
    rw [List.foldl_cons]
    refine ⟨?_, by omega, fun y hy => ?_⟩
    · rcases h1 with h1 | h1
      · rw [h1]
        by_cases hh : k ≤ n
        · right; rw [show min n k = k by omega]; simp
        · left; omega
      · right; exact List.mem_cons_of_mem _ h1
    · rcases List.mem_cons.mp hy with e | hy
      · subst e; omega
      · exact h3 y hy
theorem maxL_is {ns : List Int} {k m : Int} (h : maxL ns = some k) (h1 : m ∈ ns) (h2 : ∀ y ∈ ns, y ≤ m) : m = k := by
  cases ns with
  | nil => cases h
  | cons n ns =>
    cases h
    obtain ⟨a, b, c⟩ := foldmax ns n
    have l1 : m ≤ ns.foldl max n := by
      rcases List.mem_cons.mp h1 with e | hm
      · subst e; exact b
      · exact c m hm
    have l2 : ns.foldl max n ≤ m := by
      rcases a with e | hm
      · rw [e]; exact h2 n List.mem_cons_self
      · exact h2 _ (List.mem_cons_of_mem _ hm)
    omega
theorem minL_is {ns : List Int} {k m : Int} (h : minL ns = some k) (h1 : m ∈ ns) (h2 : ∀ y ∈ ns, m ≤ y) : m = k := by
  cases ns with
  | nil => cases h
  | cons n ns =>
    cases h
    obtain ⟨a, b, c⟩ := foldmin ns n
    have l1 : ns.foldl min n ≤ m := by
      rcases List.mem_cons.mp h1 with e | hm
      · subst e; exact b
      · exact c m hm
    have l2 : m ≤ ns.foldl min n := by
      rcases a with e | hm
      · rw [e]; exact h2 n List.mem_cons_self
      · exact h2 _ (List.mem_cons_of_mem _ hm)
    omega
def bMax : List D → Option Val
  | [.int i, .int j] => some (.d (.int (if j > i then j else i)))
  | [.lst ds] => (intsD ds).bind fun ns => (maxL ns).map fun k => .d (.int k)
  | _ => none
def bMin : List D → Option Val
  | [.int i, .int j] => some (.d (.int (if j < i then j else i)))
  | [.lst ds] => (intsD ds).bind fun ns => (minL ns).map fun k => .d (.int k)
  | _ => none
theorem b_max (hc : X.calm = true) : BlS X (.builtin "max") bMax := by
  intro pins s σ H vs us M m ph ds val Q I rv r h e g
  unfold bMax at e
  split at e
  · cases e
    obtain ⟨v, v', rfl, c, c'⟩ := crs2 h
    exact call_max2 hc pins s σ H _ us Q I rv ⟨_, _, by rw [cr_int c, cr_int c'], g.int r⟩
  · rename_i ds
    cases hb : intsD ds with
    | none => rw [hb] at e; cases e
    | some ns =>
      rw [hb] at e
      cases hm : maxL ns with
      | none => rw [Option.bind_some, hm] at e; cases e
      | some k =>
        rw [Option.bind_some, hm] at e; cases e
        obtain ⟨v, rfl, c⟩ := crs1 h
        obtain ⟨p, xs, rfl, t, rs⟩ := cr_lst c
        have ex := intsD_rep hb rs
        subst ex
        refine cr_max hc pins s σ H _ us Q I rv ⟨p, ns, rfl, SqL.of t, ?_, fun mm h1 h2 => ?_⟩
        · cases ns with
          | nil => cases hm
          | cons _ _ => simp
        · rw [maxL_is hm h1 h2]; exact g.int r
  · cases e
theorem b_min (hc : X.calm = true) : BlS X (.builtin "min") bMin := by
  intro pins s σ H vs us M m ph ds val Q I rv r h e g
  unfold bMin at e
  split at e
  · cases e
    obtain ⟨v, v', rfl, c, c'⟩ := crs2 h
    exact call_min2 hc pins s σ H _ us Q I rv ⟨_, _, by rw [cr_int c, cr_int c'], g.int r⟩
  · rename_i ds
    cases hb : intsD ds with
    | none => rw [hb] at e; cases e
    | some ns =>
      rw [hb] at e
      cases hm : minL ns with
      | none => rw [Option.bind_some, hm] at e; cases e
      | some k =>
        rw [Option.bind_some, hm] at e; cases e
        obtain ⟨v, rfl, c⟩ := crs1 h
        obtain ⟨p, xs, rfl, t, rs⟩ := cr_lst c
        have ex := intsD_rep hb rs
        subst ex
        refine cr_min hc pins s σ H _ us Q I rv ⟨p, ns, rfl, SqL.of t, ?_, fun mm h1 h2 => ?_⟩
        · cases ns with
          | nil => cases hm
          | cons _ _ => simp
        · rw [minL_is hm h1 h2]; exact g.int r
  · cases e
end
end Pyp

/-! isinstance, sorted(set(..)), xs[::-1]. -/
namespace Pyp
open PySem L2

/-! isinstance -/
inductive Ty where
  | tInt | tBool | tStr | tList | tTuple | tDict
def Ty.nm : Ty → String
  | .tInt => "int" | .tBool => "bool" | .tStr => "str" | .tList => "list" | .tTuple => "tuple" | .tDict => "dict"
def isTy : Ty → D → Bool
  | .tInt, .int _ => true
  | .tInt, .bl _ => true
  | .tBool, .bl _ => true
  | .tStr, .str _ => true
  | .tList, .lst _ => true
  | .tList, .fz _ => true
  | .tTuple, .tup _ => true
  | .tDict, .dic _ _ => true
  | _, _ => false
def tyN : D → String
  | .non => "NoneType" | .bl _ => "bool" | .int _ => "int" | .str _ => "str" | .tup _ => "tuple" | .lst _ => "list" | .dic _ _ => "dict" | .fz _ => "list"
theorem kit_pair : ∀ t ∈ [Ty.tInt, .tBool, .tStr, .tList, .tTuple, .tDict], ∀ d ∈ [D.non, .bl true, .int 0, .str [], .tup [], .lst [], .dic [] []], kitB (tyN d) t.nm = some (isTy t d) := by decide +kernel
theorem kit_isTy (t : Ty) (d : D) : kitB (tyN d) t.nm = some (isTy t d) := by
  have k := fun d h => kit_pair t (by cases t <;> simp) d h
  cases d with
  | non => exact k .non (by simp)
  | bl b => have := k (.bl true) (by simp); cases t <;> exact this
  | int b => have := k (.int 0) (by simp); cases t <;> exact this
  | str b => have := k (.str []) (by simp); cases t <;> exact this
  | tup b => have := k (.tup []) (by simp); cases t <;> exact this
  | lst b => have := k (.lst []) (by simp); cases t <;> exact this
  | dic b c => have := k (.dic [] []) (by simp); cases t <;> exact this
  | fz b => have := k (.lst []) (by simp); cases t <;> exact this
def noDic : D → Bool
  | .dic _ _ => false
  | _ => true
@[simp] theorem noDic_non : noDic .non = true := rfl
@[simp] theorem noDic_bl {b : Bool} : noDic (.bl b) = true := rfl
@[simp] theorem noDic_int {i : Int} : noDic (.int i) = true := rfl
@[simp] theorem noDic_str {x : List Nat} : noDic (.str x) = true := rfl
@[simp] theorem noDic_tup {ds : List D} : noDic (.tup ds) = true := rfl
@[simp] theorem noDic_lst {ds : List D} : noDic (.lst ds) = true := rfl
@[simp] theorem noDic_fz {ns : List Int} : noDic (.fz ns) = true := rfl
theorem CR.tyX {K M H d v} (h : CR K M H d v) (nd : noDic d = true) : TyX K H v (.type (tyN d)) := by
  cases d with
  | non => rw [cr_non h]; exact .base .non
  | bl b => rw [cr_bl h]; exact .base (.bl b)
  | int b => rw [cr_int h]; exact .base (.int b)
  | str b => rw [cr_str h]; exact .base (.str _)
  | tup ds =>
    obtain ⟨a, xs, e, t, _⟩ := cr_tup h
    rw [e]
    rcases t with ⟨_, h | ⟨o, h⟩⟩ | ⟨o, its, n, h1, h2, _⟩
    · exact .base (.tup h)
    · exact .fTuple h
    · exact .kTuple h1 h2
  | lst ds => obtain ⟨a, xs, e, t, _⟩ := cr_lst h; rw [e]; exact .base (.lst t)
  | dic ks vs => cases nd
  | fz ns =>
    obtain ⟨a, e, t⟩ := cr_fz h
    rw [e]
    rcases t with ⟨_, h | ⟨o, h⟩⟩ | ⟨o, its, n, h1, h2, _⟩
    · exact .base (.lst h)
    · exact .base (.frz h)
    · exact .kList h1 h2
section
variable {X : Cx} {W : WX} {a b c e : Expr} {xa xb xc xe : Ex} {pos p p2 p3 p4 : Pos}
def eIsi (ts : List Ty) (x : Ex) : Ex := fun env ph => (x env ph).bind fun v ph1 => match v.cont ph1 with
  | some d => bif noDic d then .ok (.d (.bl (ts.any fun t => isTy t d))) ph1 else .bad
  | none => .bad
theorem s_isi (t : Ty) {n : Str} (hm : X.mg "isinstance" = none) (hm2 : X.mg n = none) (ha : SE X W a xa) (hv2 : bootBuiltins n = some (.type t.nm)) (hg : Gl X "isinstance" := by rfl) (hg2 : Gl X n := by rfl) (hv : bootBuiltins "isinstance" = some (.builtin "isinstance") := by rfl)
    (hn2 : n ≠ "__name__" := by decide) (hd2 : (n == ("__debug__" : Str)) = false := by decide)
    (he : starEach [a, .Name n p2] X.env = (false, eval a X.env) :: starEach [.Name n p2] X.env := by rfl) (he2 : starEach [.Name n p2] X.env = (false, eval (.Name n p2) X.env) :: starEach [] X.env := by rfl) (hpl : (backTo pos (starEach [.Name n p2] X.env)).any (·.1) = false := by rfl) :
    SE X W (.Call (.Name "isinstance" p) [a, .Name n p2] [] pos) (eIsi [t] xa) := ⟨fun M m σ H env ph r er Q q =>
  tW_of (pe_callB call_isi hg hm hv (pa_cons tW_pe (pa_cons (pe_bltn (v := .ty t.nm) hg2 hm2 hv2 rfl hn2 hd2) pa_nil he2) he) (by decide) (by decide) he hpl) (by
  refine ha.bind r er q fun va ph1 v1 H1 fr1 r1 er1 rv1 _ q1 => ?_
  split at q1
  · rename_i d ed
    cases nd : noDic d with
    | false => rw [nd] at q1; exact q1.elim
    | true =>
    rw [nd] at q1
    refine ⟨v1, .ty t.nm, _, _, isTy t d, rfl, .ty _, (rv1.cr r1 ed).tyX nd, kit_ty (kit_isTy t d), ?_⟩
    have q2 : GE X M m H Q (.d (.bl ([t].any fun t => isTy t d))) ph1 := q1
    have e : ([t].any fun t => isTy t d) = isTy t d := by simp
    rw [e] at q2
    exact (GE.at fr1 r1 q2).bl r1
  · exact q1.elim)⟩
theorem s_isi2 (t t' : Ty) {n n' : Str} {k : Nat} (hm : X.mg "isinstance" = none) (hm2 : X.mg n = none) (hm3 : X.mg n' = none) (ha : SE X W a xa) (hv2 : bootBuiltins n = some (.type t.nm)) (hv3 : bootBuiltins n' = some (.type t'.nm)) (hg : Gl X "isinstance" := by rfl) (hg2 : Gl X n := by rfl) (hg3 : Gl X n' := by rfl) (hv : bootBuiltins "isinstance" = some (.builtin "isinstance") := by rfl)
    (hn2 : n ≠ "__name__" := by decide) (hd2 : (n == ("__debug__" : Str)) = false := by decide) (hn3 : n' ≠ "__name__" := by decide) (hd3 : (n' == ("__debug__" : Str)) = false := by decide)
    (he : starEach [a, .Tuple [.Name n p2, .Name n' p3] k p4] X.env = (false, eval a X.env) :: starEach [.Tuple [.Name n p2, .Name n' p3] k p4] X.env := by rfl) (he2 : starEach [.Tuple [.Name n p2, .Name n' p3] k p4] X.env = (false, eval (.Tuple [.Name n p2, .Name n' p3] k p4) X.env) :: starEach [] X.env := by rfl)
    (he3 : starEach [.Name n p2, .Name n' p3] X.env = (false, eval (.Name n p2) X.env) :: starEach [.Name n' p3] X.env := by rfl) (he4 : starEach [.Name n' p3] X.env = (false, eval (.Name n' p3) X.env) :: starEach [] X.env := by rfl)
    (hpl : (backTo pos (starEach [.Tuple [.Name n p2, .Name n' p3] k p4] X.env)).any (·.1) = false := by rfl) :
    SE X W (.Call (.Name "isinstance" p) [a, .Tuple [.Name n p2, .Name n' p3] k p4] [] pos) (eIsi [t, t'] xa) := ⟨fun M m σ H env ph r er Q q =>
  tW_of (pe_callB call_isiT hg hm hv (pa_cons tW_pe (pa_cons (pe_tup (pa_cons (pe_bltn (v := .ty t.nm) hg2 hm2 hv2 rfl hn2 hd2) (pa_cons (pe_bltn (v := .ty t'.nm) hg3 hm3 hv3 rfl hn3 hd3) pa_nil he4) he3)) pa_nil he2) he) (by decide) (by decide) he hpl) (by
  refine ha.bind r er q fun va ph1 v1 H1 fr1 r1 er1 rv1 _ q1 => ?_
  split at q1
  · rename_i d ed
    cases nd : noDic d with
    | false => rw [nd] at q1; exact q1.elim
    | true =>
    rw [nd] at q1
    refine ⟨show 2 ≤ sizeLine by decide, fun pp hp => ?_⟩
    have q2 : GE X M m H Q (.d (.bl ([t, t'].any fun t => isTy t d))) ph1 := q1
    refine ⟨v1, pp, [.ty t.nm, .ty t'.nm], _, _, [t, t'].any fun t => isTy t d, rfl, upd_same, .cons (.ty _) (.cons (.ty _) .nil), ((rv1.keep r1 (Frame.new hp)).cr (r1.new hp) ed).tyX nd, ?_, ?_⟩
    · refine kitAny_cons (kit_ty (kit_isTy t d)) (fun e => kitAny_cons (kit_ty (kit_isTy t' d)) (fun e' => ?_) fun e' => ?_) fun e => ?_
      · rw [kitAny_nil]; simp [e, e']
      · simp [e']
      · simp [e]
    · exact q2 _ _ (fr1.trans (Frame.new hp)) (r1.new hp) (by rw [RV, Rep]) RO.d
  · exact q1.elim)⟩
end
end Pyp

/-! set(xs), xs a list of ints: the twin of the kit's rule for a tuple (call_set_tupI). -/
namespace L2
open PySem PySem.Spec PyProof.Rows
section
variable {P : Program} {w : World} {A : Around} {E : Value → Shared → Prop} {s : Shared}
theorem set_of_list {l : Addr} {items : Array Value} (ns : List Int) {Q : Value → Shared → Prop} (hh : A.handled = none) (hl : s.heap.IsList l items) (hit : IntsAre items.toList ns) (hb : ns.length + 1 < scanBound)
    (h : ∀ (h' : Heap) (tk c : Nat), SetR w h' s.heap.objs.size (fun j => decide (j ∈ ns)) c → c ≤ ns.length → (∀ b o, s.heap.get? b = some o → h'.get? b = some o) → Q (.ref s.heap.objs.size) { s with heap := h', toks := tk }) :
    wpAny (model P w) A (call (.type "set") [.ref l]) Q E s := by
  have hisz : items.size = ns.length := by
    have q := IntsAre.length hit
    rw [Array.length_toList] at q
    exact q
  obtain ⟨c, tl, hmro⟩ := F.called_set.mro
  have hmade := F.called_set.made
  have hsub := F.called_set.sub
  refine wpAny_call (codeAny_of_tree ?_)
  show wpAny _ _ (callAny (.type "set") _) _ _ _
  refine wpAny_pure ⟨Code.quiet_builtin _ (by decide +kernel), codeAny_builtin F.entry_type_call ?_⟩
  rw [Around.under_plain (weight_type_call_type "set" [.ref l] []) rfl]
  have h1 := F.called_set.notType
  have h2 := F.called_set.canCreate
  have hct := F.typeCall_set_1 (.ref l)
  repeat (any_goals (first | assumption | wp_step))

  refine codeAny_mono (code_set_led1 (.ref l) (E := E) (Q₁ := fun obj s₁ => obj = .ref s.heap.objs.size ∧ s₁ = { s with heap := s.heap.push { cls := .type "set", dict := none, data := .set #[] 0 (.fresh 0 0 (!w.params.followText "set-order")) } }) ⟨rfl, rfl⟩) fun r s₁ hr => ?_
  cases r with
  | error e => exact hr
  | ok fl =>
    cases fl with
    | ret obj =>
      obtain ⟨rfl, rfl⟩ := hr
      have hS : (s.heap.push { cls := .type "set", dict := none, data := .set #[] 0 (.fresh 0 0 (!w.params.followText "set-order")) }).get? s.heap.objs.size = some { cls := .type "set", dict := none, data := .set #[] 0 (.fresh 0 0 (!w.params.followText "set-order")) } := Heap.get?_push_size _ rfl
      have hT : Shared.TypeIs { s with heap := s.heap.push { cls := .type "set", dict := none, data := .set #[] 0 (.fresh 0 0 (!w.params.followText "set-order")) } } (.ref s.heap.objs.size) "set" := ⟨_, hS, rfl⟩
      have hli := F.called_set.init.lookup
      have hbi := F.called_set.init.bind (.ref s.heap.objs.size)
      repeat (any_goals (first | assumption | wp_step))

      refine codeAny_mono (codeAny_call_builtin (R := wants (fun r s₂ => r = .none ∧ ∃ h' tk c, s₂ = { s with heap := h', toks := tk } ∧ SetR w h' s.heap.objs.size (fun j => decide (j ∈ ns)) c ∧ c ≤ ns.length ∧
          (∀ b o, s.heap.get? b = some o → h'.get? b = some o)) E) F.called_set.init.plain F.entry_set_init (check_set_init_1 hT ?_)) fun r₂ s₂ hr₂ => ?_
      · obtain ⟨ol, hol, hcl, nl, hdl⟩ := hl
        obtain ⟨ocls, odict, odata, oslots⟩ := ol
        simp only at hcl hdl
        subst hcl; subst hdl
        have hol' : (s.heap.push { cls := .type "set", dict := none, data := .set #[] 0 (.fresh 0 0 (!w.params.followText "set-order")) }).get? l = some { cls := .type "list", dict := odict, data := .seq items nl, slots := oslots } := Heap.get?_push_of_some _ hol
        have hsls := F.sub_list_set
        have hslf := F.sub_list_frozenset
        have hne : (Value.type "list" == Value.type "dict") = false := by decide
        have hl1 : (s.heap.push { cls := .type "set", dict := none, data := .set #[] 0 (.fresh 0 0 (!w.params.followText "set-order")) }).IsList l items := ⟨_, hol', rfl, nl, rfl⟩
        unfold Builtin.«set.__init__» noKeywords Builtin.Frozenset.updateFrom
        generalize hPI : pyIter = PI
        wp_walk
        subst hPI

        refine wpAny_pyIter_list hl1 ?_
        refine wpAny_bind (wpAny_runValue ?_)
        have hlS : l < s.heap.objs.size := Heap.lt_size hol
        have hh3 : A.in1.in1.in1.handled = none := by simp [hh]
        have hz1 : (s.heap.push { cls := .type "set", dict := none, data := .set #[] 0 (.fresh 0 0 (!w.params.followText "set-order")) }).objs.size = s.heap.objs.size + 1 := Heap.size_push ..
        have hneI : l ≠ (s.heap.push { cls := .type "set", dict := none, data := .set #[] 0 (.fresh 0 0 (!w.params.followText "set-order")) }).objs.size := by
          rw [Heap.size_push]; exact Nat.ne_of_lt (Nat.lt_succ_of_lt hlS)
        have hSf : s.heap.objs.size ∉ [(s.heap.push { cls := .type "set", dict := none, data := .set #[] 0 (.fresh 0 0 (!w.params.followText "set-order")) }).objs.size, l] := by
          rw [Heap.size_push]; simp only [List.mem_cons, List.mem_singleton, List.not_mem_nil, or_false, not_or]
          exact ⟨Nat.ne_of_lt (Nat.lt_succ_self _), Nat.ne_of_gt hlS⟩
        have hval : ∀ (i : Nat) (v : Value), items[i]? = some v → ∃ k t, ns[i]? = some k ∧ v = .int k t := fun i v hv => by
          have hi : i < ns.length := by rw [← hisz]; exact (Array.getElem?_eq_some_iff.mp hv).1
          obtain ⟨t, e⟩ := PyProof.Rows.IntsAre.int_at hit i v (by rw [Array.getElem?_toList]; exact hv)
          refine ⟨ns[i], t, List.getElem?_eq_getElem hi, ?_⟩
          rw [e, List.getD_eq_getElem?_getD, List.getElem?_eq_getElem hi] <;> rfl
        refine set_update_ints ((Walks.list hh3 _ l hneI items).toS) s.heap.objs.size
          hSf ns hisz hb hval (items.size - 0) 0 _ (by omega) (Nat.zero_le _)
          ⟨⟨_, Heap.get?_push_size _ rfl, rfl, rfl⟩, (hl1.push _)⟩ ?hS0 ?hR
        case hS0 =>
          have hget : ((s.heap.push { cls := .type "set", dict := none, data := .set #[] 0 (.fresh 0 0 (!w.params.followText "set-order")) }).push { cls := .type "list_iterator", data := .fields #[.ref l, .int 0 0] }).get? s.heap.objs.size
              = some { cls := .type "set", dict := none, data := .set #[] 0 (.fresh 0 0 (!w.params.followText "set-order")) } := Heap.get?_push_of_some _ hS
          exact ⟨0, Nat.le_refl 0, setR_new_at hget⟩
        case hR =>
          intro s' c' hm hc' hS'
          obtain ⟨h', g2, d', tk', os'⟩ := s'
          have eg : g2 = s.gens := hm.gens
          have ed : d' = s.drawn := hm.drawn
          have eo : os' = s.os := hm.os
          subst eg; subst ed; subst eo
          show wpAny _ _ _ _ _ _
          refine wpAny_pure ?_
          show wpAny _ _ (ret Value.none) _ _ _
          rw [hisz] at hc'
          refine wpAny_pure ⟨rfl, h', tk', c', rfl, hS', hc', fun b o e => ?_⟩
          have hb0 : b < s.heap.objs.size := Heap.lt_size e
          have hb1 : b ≠ s.heap.objs.size := Nat.ne_of_lt hb0
          have hb2 : b ≠ (s.heap.push { cls := .type "set", dict := none, data := .set #[] 0 (.fresh 0 0 (!w.params.followText "set-order")) }).objs.size := by
            rw [Heap.size_push]; exact Nat.ne_of_lt (Nat.lt_succ_of_lt hb0)
          exact hm.heap b o (by simp only [List.mem_cons, List.mem_singleton, List.not_mem_nil, or_false, not_or]; exact ⟨hb1, hb2⟩) (Heap.get?_push_of_some _ (Heap.get?_push_of_some _ e))

      · cases r₂ with
        | error e => exact hr₂
        | ok fl₂ =>
          cases fl₂ with
          | ret r =>
            obtain ⟨rfl, h', tk, c', rfl, hS', hc', hk'⟩ := hr₂
            repeat (any_goals (first | assumption | wp_step))
            exact h _ _ _ hS' hc' hk'
          | _ => exact hr₂.elim
    | _ => exact hr.elim
end
end L2

/-! sorted(set(..)), xs[::-1]. -/
namespace Pyp
open PySem PySem.Spec PyProof.Rows L2

/-! sorted(set(t)), t a tuple of ints -/
def insU (k : Int) : List Int → List Int
  | [] => [k]
  | x :: xs => if k < x then k :: x :: xs else if k = x then x :: xs else x :: insU k xs
def sortU (ns : List Int) : List Int := ns.foldr insU []
theorem insU_mem (k j : Int) : ∀ xs, j ∈ insU k xs ↔ j = k ∨ j ∈ xs
  | [] => by simp [insU]
  | x :: xs => by
    unfold insU
    split
    · simp
    · split
      · rename_i h; subst h; simp
      · rw [List.mem_cons, insU_mem k j xs, List.mem_cons]
        constructor
        · rintro (h | h | h)
          · exact .inr (.inl h)
          · exact .inl h
          · exact .inr (.inr h)
        · rintro (h | h | h)
          · exact .inr (.inl h)
          · exact .inl h
          · exact .inr (.inr h)
theorem insU_sorted (k : Int) : ∀ xs : List Int, xs.Pairwise (· < ·) → (insU k xs).Pairwise (· < ·)
  | [], _ => by simp [insU]
  | x :: xs, h => by
    obtain ⟨h1, h2⟩ := List.pairwise_cons.mp h
    unfold insU
    split
    · rename_i hk
      refine List.pairwise_cons.mpr ⟨fun y hy => ?_, h⟩
      rcases List.mem_cons.mp hy with e | hy
      · subst e; exact hk
      · have := h1 y hy; omega
    · split
      · exact h
      · refine List.pairwise_cons.mpr ⟨fun y hy => ?_, insU_sorted k xs h2⟩
        rcases (insU_mem k y xs).mp hy with e | hy
        · subst e; omega
        · exact h1 y hy
theorem sortU_mem (j : Int) : ∀ ns, j ∈ sortU ns ↔ j ∈ ns
  | [] => by simp [sortU]
  | n :: ns => by
    show j ∈ insU n (sortU ns) ↔ _
    rw [insU_mem, sortU_mem j ns, List.mem_cons]
theorem sortU_sorted : ∀ ns, (sortU ns).Pairwise (· < ·)
  | [] => .nil
  | n :: ns => insU_sorted n _ (sortU_sorted ns)
theorem strict_eq : ∀ {xs ys : List Int}, xs.Pairwise (· < ·) → ys.Pairwise (· < ·) → (∀ k, k ∈ xs ↔ k ∈ ys) → xs = ys
  | [], [], _, _, _ => rfl
  | [], y :: ys, _, _, h => absurd ((h y).mpr List.mem_cons_self) (by simp)
  | x :: xs, [], _, _, h => absurd ((h x).mp List.mem_cons_self) (by simp)
  | x :: xs, y :: ys, hx, hy, h => by
    obtain ⟨a1, a2⟩ := List.pairwise_cons.mp hx
    obtain ⟨b1, b2⟩ := List.pairwise_cons.mp hy
    have e : x = y := by
      have p := (h x).mp List.mem_cons_self
      have q := (h y).mpr List.mem_cons_self
      rcases List.mem_cons.mp p with e | p
      · exact e
      · rcases List.mem_cons.mp q with e | q
        · exact e.symm
        · have := b1 x p; have := a1 y q; omega
    subst e
    rw [strict_eq a2 b2 fun k => ?_]
    constructor
    · intro hk
      rcases List.mem_cons.mp ((h k).mp (List.mem_cons_of_mem _ hk)) with e | z
      · subst e; have := a1 k hk; omega
      · exact z
    · intro hk
      rcases List.mem_cons.mp ((h k).mpr (List.mem_cons_of_mem _ hk)) with e | z
      · subst e; have := b1 k hk; omega
      · exact z
section
variable {X : Cx} {W : WX} {a b c e : Expr} {xa xb xc xe : Ex} {pos p p2 p3 p4 pos2 : Pos}
theorem cr_setI (hc : X.calm = true) : CallR X (.type "set") (fun vs H Q => ∃ (a : Addr) (ns : List Int), vs = [V.ref a] ∧ (SqT X.K H a (ns.map V.int) ∨ SqL X.K H a (ns.map V.int)) ∧ ns.length < 64 ∧
  ∀ p n, H p = none → n ≤ ns.length → Q (.ref p) (upd H p (SetO X.w p (fun j => decide (j ∈ ns)) n))) := by
  intro pins s σ H vs us Q I r h
  obtain ⟨a, ns, rfl, hs, h64, q⟩ := h
  rw [Vals.ref1 r]
  rcases hs with hs | hs
  · obtain ⟨its, rv, pl, hz⟩ := I.tuple hs
    refine call_set_tupI ns (I.ok.hd hc) (by obtain ⟨o, h1, h2, n, h3⟩ := pl; exact ⟨o, h1, h2, n, h3⟩) (by simpa using rv.ints) (by unfold scanBound; omega) fun h' tk c R hcn hk => ?_
    exact ⟨.ref _, upd H s.heap.objs.size (SetO X.w s.heap.objs.size (fun j => decide (j ∈ ns)) c), I.laid (t' := tk) hk (Nat.le_refl _) (setO_new R), rfl, q _ c (I.hok.fresh (Nat.le_refl _)) hcn⟩
  · obtain ⟨its, rv, pl, hz⟩ := I.list hs
    refine set_of_list ns (I.ok.hd hc) pl.isList (by simpa using rv.ints) (by unfold scanBound; omega) fun h' tk c R hcn hk => ?_
    exact ⟨.ref _, upd H s.heap.objs.size (SetO X.w s.heap.objs.size (fun j => decide (j ∈ ns)) c), I.laid (t' := tk) hk (Nat.le_refl _) (setO_new R), rfl, q _ c (I.hok.fresh (Nat.le_refl _)) hcn⟩
/-- sorted(set(a)) -/
def sortUE (ds : List D) : Option Val := match intsD ds with
  | some ns => if ns.length < 64 then some (.own (.lst ((sortU ns).map .int))) else none
  | none => none
def dSortU : D → Option Val
  | .tup ds => sortUE ds
  | .lst ds => sortUE ds
  | _ => none
def eSortU (x : Ex) : Ex := fun env ph => (x env ph).bind fun v ph1 => match v.cont ph1 with
  | some d => Res.of (dSortU d) ph1
  | none => .bad
theorem s_sortU (hc : X.calm = true) (hm : X.mg "sorted" = none) (hm2 : X.mg "set" = none) (ha : SE X W a xa) (hg : Gl X "sorted" := by rfl) (hg2 : Gl X "set" := by rfl) (hv : bootBuiltins "sorted" = some (.builtin "sorted") := by rfl) (hv2 : bootBuiltins "set" = some (.type "set") := by rfl)
    (he : starEach [a] X.env = (false, eval a X.env) :: starEach [] X.env := by rfl) (hpl : (backTo pos2 (starEach [] X.env)).any (·.1) = false := by rfl)
    (he2 : starEach [.Call (.Name "set" p2) [a] [] pos2] X.env = (false, eval (.Call (.Name "set" p2) [a] [] pos2) X.env) :: starEach [] X.env := by rfl) (hpl2 : (backTo pos (starEach [] X.env)).any (·.1) = false := by rfl) :
    SE X W (.Call (.Name "sorted" p) [.Call (.Name "set" p2) [a] [] pos2] [] pos) (eSortU xa) := ⟨fun M m σ H env ph r er Q q =>
  tW_of (pe_callB (cr_sortedSet hc) hg hm hv (pa_cons (pe_callTy (cr_setI hc) hg2 hm2 hv2 (pa_cons tW_pe pa_nil he) (by decide) (by decide) he hpl) pa_nil he2) (by decide) (by decide) he2 hpl2) (by
  refine ha.bind r er q fun va ph1 v1 H1 fr1 r1 er1 rv1 _ q1 => ?_
  split at q1
  · rename_i d ed
    obtain ⟨val, ev, g⟩ := Post.of (Q := Q) (M := M) (m := m) (H := H1) (X := X) (W := W) (σ := σ) (o := dSortU d) (ph := ph1) (Post.mono (fun _ _ g => GE.at fr1 r1 g) q1)
    have fin : ∀ (ds : List D) (a : Addr) (xs : List V), v1 = .ref a → (SqT X.K H1 a xs ∨ SqL X.K H1 a xs) → Reps (kx X) M H1 ds xs → sortUE ds = some val → ∃ (a : Addr) (ns : List Int), [v1] = [V.ref a] ∧ (SqT X.K H1 a (ns.map V.int) ∨ SqL X.K H1 a (ns.map V.int)) ∧ ns.length < 64 ∧
        ∀ p n, H1 p = none → n ≤ ns.length → rSortedSet X.w [V.ref p] (upd H1 p (SetO X.w p (fun j => decide (j ∈ ns)) n)) Q := by
      intro ds a xs ev1 t rs ev
      unfold sortUE at ev
      split at ev
      · rename_i ns hi
        split at ev
        · rename_i h64
          cases ev
          have ex := intsD_rep hi rs
          subst ex
          refine ⟨a, ns, by rw [ev1], t, h64, fun pp n hp hn => ?_⟩
          refine ⟨pp, _, n, rfl, upd_same, by omega, fun ns' p3 hpw hmem hlen hp3 => ?_⟩
          have e : ns' = sortU ns := strict_eq hpw (sortU_sorted ns) fun k => by rw [hmem k, sortU_mem]; simp
          subst e
          have r2 := r1.new (o := SetO X.w pp (fun j => decide (j ∈ ns)) n) hp
          have f2 : Frame m H1 (upd H1 pp (SetO X.w pp (fun j => decide (j ∈ ns)) n)) := Frame.new hp
          exact GE.lst (ph := ph1) (GE.at f2 r2 g) r2 (reps_ints _) p3 hp3
        · cases ev
      · cases ev
    cases d with
    | tup ds =>
      obtain ⟨a, xs, e1, t, rs⟩ := cr_tup (rv1.cr r1 ed)
      exact fin ds a xs e1 (.inl t.sq) rs ev
    | lst ds =>
      obtain ⟨a, xs, e1, t, rs⟩ := cr_lst (rv1.cr r1 ed)
      exact fin ds a xs e1 (.inr (SqL.of t)) rs ev
    | _ => cases ev
  · exact q1.elim)⟩

/-! xs[::-1] -/
theorem sliceApplied_rev {prog : Program} {w : World} {A : Around} {E : Value → Shared → Prop} {s : Shared} {sl : Addr} {vs : Value} {n : Nat} {Q : Int × Int × Nat → Shared → Prop} (hs : s.heap.IsSliceOf sl .none .none vs) (ps : IsPart vs (some (-1)))
    (h : Q ((n : Int) - 1, -1, n) s) : wpAny (model prog w) A (Builtin.Slice.sliceApplied (.ref sl) (pure (n : Int))) Q E s := by
  obtain ⟨os, hos, hcs, hds⟩ := id hs
  unfold Builtin.Slice.sliceApplied Builtin.Slice.sliceFields
  refine wpAny_bind (wpAny_bind (wpAny_field hos hds (x := .none) rfl (wpAny_bind (wpAny_field hos hds (x := .none) rfl (wpAny_bind (wpAny_field hos hds (x := vs) rfl (wpAny_pure ?_)))))))
  refine wpAny_bind (HT.slicePart_ ps ?_)
  show wpAny _ _ (if ((-1 : Int) == 0) = true then _ else _) _ _ s
  rw [if_neg (by decide)]
  refine wpAny_bind (slicePart_none (wpAny_bind (slicePart_none (wpAny_bind (wpAny_pure ?_)))))
  show wpAny _ _ (match Builtin.Slice.sliceAdjust none none (-1) (n : Int) with | (lo, hi) => pure (lo, (-1 : Int), Builtin.Slice.slicePlaces lo hi (-1))) _ _ s
  have e : Builtin.Slice.sliceAdjust none none (-1) (n : Int) = ((n : Int) - 1, -1) := rfl
  rw [e]
  have e2 : Builtin.Slice.slicePlaces ((n : Int) - 1) (-1) (-1) = n := by
    unfold Builtin.Slice.slicePlaces
    rw [if_neg (by decide)]
    by_cases h : (n : Int) - 1 > -1
    · rw [if_pos h, show (-(-1) : Int) = 1 by decide, Int.ediv_one]; omega
    · rw [if_neg h]; omega
  show wpAny _ _ (pure ((n : Int) - 1, (-1 : Int), Builtin.Slice.slicePlaces ((n : Int) - 1) (-1) (-1))) _ _ s
  rw [e2]
  exact wpAny_pure h
theorem fm_congr {α β : Type} {f g : α → Option β} : ∀ {l : List α}, (∀ a ∈ l, f a = g a) → l.filterMap f = l.filterMap g
  | [], _ => rfl
  | a :: l, h => by
    rw [List.filterMap_cons, List.filterMap_cons, h a List.mem_cons_self, fm_congr fun b hb => h b (List.mem_cons_of_mem _ hb)]
theorem pick_rev (xs : Array Value) : ((List.range xs.size).filterMap fun (m : Nat) => xs[(((xs.size : Int) - 1) + (m : Int) * -1).toNat]?).toArray = xs.toList.reverse.toArray := by
  rw [← PySem.W.krv_pick]
  unfold slicePick
  rw [PySem.W.krv_bounds]
  show _ = ((sliceRange ((xs.size : Int) - 1) (-1) (-1)).filterMap (xs[·]?)).toArray
  rw [PySem.W.krv_sliceRange, List.filterMap_map]
  congr 1
  apply fm_congr
  intro m hm
  have := List.mem_range.mp hm
  have e : (((xs.size : Int) - 1) + (m : Int) * -1).toNat = xs.size - 1 - m := by omega
  rw [e]
  rfl
theorem getItem_tuple_rev {prog : Program} {w : World} {A : Around} {E : Value → Shared → Prop} {s : Shared} {t sl : Addr} {items : Array Value} {vs : Value} {Q : Value → Shared → Prop} (ht : IsTup s.heap t items) (hs : s.heap.IsSliceOf sl .none .none vs) (ps : IsPart vs (some (-1)))
    (h : Q (.ref s.heap.objs.size) { s with heap := s.heap.push { cls := .type "tuple", data := .seq items.toList.reverse.toArray } })
    (hsz : items.size ≤ sizeLine) : wpAny (model prog w) A (getItem (.ref t) (.ref sl)) Q E s := by
  have htake : sizeOk (.seq items.toList.reverse.toArray) := by
    show items.toList.reverse.toArray.size ≤ sizeLine
    simpa using hsz
  obtain ⟨os, hos, hcs, hds⟩ := id hs
  have hTs : s.TypeIs (.ref sl) "slice" := ⟨os, hos, hcs⟩
  unfold getItem
  try with_reducible refine wpAny_holding ?_
  first | refine wpAny_bind (wpAny_pure ?_) | skip
  refine wpAny_bind (wpAny_sequenceKey ht.typeIs (by decide) ?_)
  refine wpAny_bind (wpAny_callSpecial?_slot (name := Str.ofString "__getitem__") ht.typeIs slot_tuple_getitem
    (wpAny_call_entry slot_tuple_getitem ht.typeIs entry_tuple_getitem ?_ (args_tuple_getitem _ _)))
  show wpAny _ _ (Builtin.Tuple.tupleItemsOf (.ref t) >>= _) _ _ s
  refine wpAny_bind (tupleItemsOf_ ht ?_)
  refine wpAny_bind (wpAny_typeOf hTs ?_)
  rw [if_pos (by decide)]
  refine wpAny_bind (sliceApplied_rev hs ps ?_)
  have hno : ¬ ((((items.size : Int) - 1) == 0 && (-1 : Int) == 1 && items.size == items.size) = true) := by simp
  show wpAny _ _ (if (((items.size : Int) - 1) == 0 && (-1 : Int) == 1 && items.size == items.size) = true then _ else _) _ _ s
  rw [if_neg hno, pick_rev]
  first
    | exact wpAny_bind (m := Builtin.Tuple.tupleExact _) (wpAny_newObj_type (wpAny_pure ⟨_, rfl, wpAny_pure h⟩) htake)
    | exact wpAny_bind (m := Builtin.Tuple.tupleExact _) (wpAny_newObj_type (wpAny_bind (wpAny_pure (wpAny_pure ⟨_, rfl, wpAny_pure h⟩))) htake)
    | exact wpAny_bind (wpAny_bind (m := Builtin.Tuple.tupleExact _) (wpAny_newObj_type (wpAny_pure (wpAny_pure ⟨_, rfl, wpAny_pure h⟩)) htake))
    | exact wpAny_bind (wpAny_bind (m := Builtin.Tuple.tupleExact _) (wpAny_newObj_type (wpAny_pure ⟨_, rfl, wpAny_pure h⟩) htake))
/-- a[::-1] -/
def tRevS (K : PySem.W.Frag) (te : TE) : TE := fun σ H Q => te σ H fun x H1 => ∃ a xs, x = .ref a ∧ ((SqL K H1 a xs ∧ ∀ p, H1 p = none → Q (.ref p) (upd H1 p (.lst xs.reverse))) ∨ (SqT K H1 a xs ∧ ∀ p, H1 p = none → Q (.ref p) (upd H1 p (.tup xs.reverse))))
theorem pe_revS {e : Expr} {te : TE} {k : Nat} (he : PE X e te) : PE X (.Subscript e (.Slice none none (some (.UnaryOp .USub (.Constant (.int 1) k p) p2)) p3) pos) (tRevS X.K te) := by
  refine ⟨fun pins s σ H Q I h => ?_⟩
  refine Subscript_ (thn (he.run pins s σ H _ I h) fun v s1 ⟨x, H1, I1, r1, q1⟩ => ?_)
  obtain ⟨a, xs, ex, q⟩ := q1
  subst ex
  cases r1
  have hst : PO X (some (.UnaryOp .USub (.Constant (.int 1) k p) p2)) (tPart (tUn (rU fun i => .int (-i)) (tC (.int 1)))) := po_some (pe_un un_neg pe_int)
  refine wpAny_Slice (thn (po_none.run pins s1 σ H1 (fun o H2 => o = none ∧ H2 = H1) I1 ⟨rfl, rfl⟩) fun vl s2 ⟨l, H2, I2, pl, el, e2⟩ => ?_)
  subst el e2
  refine thn (po_none.run pins s2 σ H2 (fun o H3 => o = none ∧ H3 = H2) I2 ⟨rfl, rfl⟩) fun vu s3 ⟨u, H3, I3, pu, eu, e3⟩ => ?_
  subst eu e3
  refine thn (hst.run pins s3 σ H3 (fun o H4 => o = some (-1) ∧ H4 = H3) I3 ⟨1, rfl, -1, rfl, rfl, rfl⟩) fun vs s4 ⟨o, H4, I4, ps, eo, e4⟩ => ?_
  subst eo e4
  have I5 : Inv X pins σ H4 { s4 with heap := s4.heap.push { cls := .type "slice", data := .fields #[vl, vu, vs] } } := I4.kept (t' := s4.toks) fun b ob q => Heap.get?_push_of_some _ q
  show wpAny (model X.prog X.w) X.A (subscriptTail e (.Slice none none (some (.UnaryOp .USub (.Constant (.int 1) k p) p2)) p3) (.ref a) (.ref s4.heap.objs.size)) (EP X pins σ Q) X.xe { s4 with heap := s4.heap.push { cls := .type "slice", data := .fields #[vl, vu, vs] } }
  rcases q with ⟨hx, q⟩ | ⟨hx, q⟩
  · obtain ⟨its, r, ht, hz⟩ := I5.list hx
    have hlen := r.length
    refine tail_any (ops := [.ref a, .ref s4.heap.objs.size]) ht.isList.typeIs (PySem.slot_list_getitem.lookup) ?_ (by with_unfolding_all rfl)
    refine wpAny_getItem_list_slice ht.isList (Heap.IsSliceOf.new _ vl vu vs) pl pu ps (by decide) ?_ (by rw [List.size_toArray]; omega)
    rw [PySem.W.krv_pick]
    refine ⟨.ref _, _, I5.laid (t' := s4.toks) (o := .lst xs.reverse) (fun b ob q => Heap.get?_push_of_some _ q) (Nat.le_refl _) ?_, rfl, q _ (I5.hok.fresh (Nat.le_refl _))⟩
    exact ⟨by rw [List.length_reverse]; exact hz, _, 0, r.reverse, Heap.get?_push_size _ rfl⟩
  · obtain ⟨its, r, ht, hz⟩ := I5.tuple hx
    have hlen := r.length
    cases pl
    cases pu
    refine tail_any (ops := [.ref a, .ref s4.heap.objs.size]) ht.typeIs (slot_tuple_getitem.lookup) ?_ (by with_unfolding_all rfl)
    refine getItem_tuple_rev ht (Heap.IsSliceOf.new _ .none .none vs) ps ?_ (by rw [List.size_toArray]; omega)
    refine ⟨.ref _, _, I5.laid (t' := s4.toks) (o := .tup xs.reverse) (fun b ob q => Heap.get?_push_of_some _ q) (Nat.le_refl _) ?_, rfl, q _ (I5.hok.fresh (Nat.le_refl _))⟩
    exact ⟨by rw [List.length_reverse]; exact hz, _, r.reverse, IsTup.new _ _⟩
def dRev : D → Option Val
  | .tup ds => some (.d (.tup ds.reverse))
  | .lst ds => some (.own (.lst ds.reverse))
  | _ => none
theorem Reps.reverse {K : Kx} {M : Addr → Prop} {H : Hp} : ∀ {ds : List D} {xs : List V}, Reps K M H ds xs → Reps K M H ds.reverse xs.reverse
  | [], xs, h => by rw [Reps] at h; subst h; exact Reps.nil
  | d :: ds, xs, h => by
    rw [Reps] at h
    obtain ⟨v, vs, rfl, r, rs⟩ := h
    rw [List.reverse_cons, List.reverse_cons]
    exact (Reps.reverse rs).append (.cons r Reps.nil)
def eD (f : D → Option Val) (x : Ex) : Ex := fun env ph => (x env ph).bind fun v ph1 => match v.cont ph1 with
  | some d => Res.of (f d) ph1
  | none => .bad
theorem s_rev {k : Nat} (ha : SE X W a xa) : SE X W (.Subscript a (.Slice none none (some (.UnaryOp .USub (.Constant (.int 1) k p) p2)) p3) pos) (eD dRev xa) := ⟨fun M m σ H env ph r er Q q => tW_of (pe_revS tW_pe) (by
  refine ha.bind r er q fun va ph1 v1 H1 fr1 r1 er1 rv1 _ q1 => ?_
  split at q1
  · rename_i d ed
    obtain ⟨val, ev, g⟩ := Post.of (Q := Q) (M := M) (m := m) (H := H1) (X := X) (W := W) (σ := σ) (o := dRev d) (ph := ph1) (Post.mono (fun _ _ g => GE.at fr1 r1 g) q1)
    have c := rv1.cr r1 ed
    cases d with
    | tup ds =>
      cases ev
      obtain ⟨a, xs, rfl, t, rs⟩ := cr_tup c
      exact ⟨a, xs, rfl, .inr ⟨t.sq, g.tup r1 rs.reverse⟩⟩
    | lst ds =>
      cases ev
      obtain ⟨a, xs, rfl, t, rs⟩ := cr_lst c
      exact ⟨a, xs, rfl, .inl ⟨SqL.of t, g.lst r1 rs.reverse⟩⟩
    | _ => cases ev
  · exact q1.elim)⟩
end
end Pyp

/-! Statements that write: methods, stores, cells; starred targets. -/
namespace Pyp
open PySem PySem.Spec PyProof.Rows L2

section
variable {K : Kx} {M0 M : Addr → Prop} {H0 H H' : Hp} {hd : V → D → Prop} {m : List Addr} {σ σ' : L2.St} {env env' : Env} {ph ph' : PH} {i n : Nat} {d : D} {v : V} {a : Addr}
theorem nd_ix {α : Type} : ∀ {l : List α} {i j : Nat} {a : α}, l.Nodup → l[i]? = some a → l[j]? = some a → i = j
  | [], i, j, a, _, h, _ => by simp at h
  | x :: l, 0, 0, a, _, _, _ => rfl
  | x :: l, 0, j + 1, a, n, h, h' => by
    simp at h h'
    subst h
    exact absurd (List.mem_of_getElem? h') (List.nodup_cons.mp n).1
  | x :: l, i + 1, 0, a, n, h, h' => by
    simp at h h'
    subst h'
    exact absurd (List.mem_of_getElem? h) (List.nodup_cons.mp n).1
  | x :: l, i + 1, j + 1, a, n, h, h' => by
    exact congrArg (· + 1) (nd_ix (l := l) (i := i) (j := j) (List.nodup_cons.mp n).2 (by simpa using h) (by simpa using h'))
/-- a cell is written -/
theorem Rel.mut (r : Rel K M m H ph) {y : D} (e : m[n]? = some a) (f : ∀ b o, b ≠ a → H b = some o → H' b = some o) (c : Cont K M H' a y) : Rel K M m H' (ph.set n y) := by
  have am := List.mem_of_getElem? e
  have ma := r.sub a am
  have kp : KeepP M H H' := fun b o h nb => f b o (fun q => nb (q ▸ ma)) h
  refine ⟨by rw [List.length_set]; exact r.len, r.nd, r.sub, fun b z => ?_, fun j b d e1 e2 => ?_⟩
  · by_cases hb : b = a
    · subst hb; exact c.some
    · obtain ⟨o, ho⟩ := r.dom b z
      exact ⟨o, f b o hb ho⟩
  · by_cases hj : n = j
    · subst hj
      rw [e] at e1; cases e1
      have hl : n < ph.length := by rw [← r.len]; exact (List.getElem?_eq_some_iff.mp e).1
      rw [List.getElem?_set_self hl] at e2; cases e2
      exact c
    · rw [List.getElem?_set_ne hj] at e2
      refine (r.cont j b d e1 e2).keep kp fun o ho => f b o (fun q => ?_) ho
      subst q
      obtain ⟨h1, h1'⟩ := List.getElem?_eq_some_iff.mp e
      obtain ⟨h2, h2'⟩ := List.getElem?_eq_some_iff.mp e1
      exact hj (nd_ix r.nd e e1)
theorem StR.mutRef (s : StR K M0 H0 hd M m σ H env ph) {y : D} (e : m[n]? = some a) (f : ∀ b o, b ≠ a → H b = some o → H' b = some o) (c : Cont K M H' a y) : StR K M0 H0 hd M m σ H' env (ph.set n y) := by
  have am := List.mem_of_getElem? e
  have fr : Frame m H H' := fun b o h nb => f b o (fun q => nb (q ▸ am)) h
  exact ⟨s.rel.mut e f c, s.er.keep s.rel fr, s.len, s.sub, s.mem, s.fr.trans fr, s.own, s.sep, fun v d h => Rep.keep (fr.keep s.rel) d v (s.held v d h)⟩
end

section
variable {X : Cx} {W : WX} {a b c e : Expr} {xa xb xc xe : Ex} {pos p p2 p3 p4 apos cpos : Pos} {es : List Expr} {xs : Ax}

/-! xs.m(..) as a statement -/
def MuS (X : Cx) (id : String) (f : List D → List D → Option (List D)) : Prop := ∀ pins s σ H a xs vs v us M ds es ds' Q, Inv X pins σ H s → RelV (.ref a) v → Vals vs us → H a = some (.lst xs) → Reps (kx X) M H ds xs → Reps (kx X) M H es vs → f ds es = some ds' →
  (∀ w ys, Reps (kx X) M H ds' ys → Q w (upd H a (.lst ys))) → wpAny (model X.prog X.w) X.A (call (.builtin id) (v :: us)) (EP X pins σ Q) X.xe s
def rWM (X : Cx) (id : String) : V → List V → Hp → VK → Prop := fun x xs H Q => ∀ pins s σ v us, Inv X pins σ H s → RelV x v → Vals xs us → wpAny (model X.prog X.w) X.A (call (.builtin id) (v :: us)) (EP X pins σ Q) X.xe s
theorem rWM_mt {id : String} : MtR X id (rWM X id) := fun pins s σ H x xs v us Q I rx rxs h => h pins s σ v us I rx rxs
def sMut (i : Nat) (f : List D → List D → Option (List D)) (xs : Ax) : Sx := fun env ph => match env[i]? with
  | some (some (.own (.lst ds))) => (xs env ph).bindS env fun vs ph1 => match dats vs with
    | some es => match f ds es with
      | some ds' => .nx (env.set i (some (.own (.lst ds')))) ph1
      | none => .bad
    | none => .bad
  | some (some (.ref n)) => match ph[n]? with
    | some (.lst _) => (xs env ph).bindS env fun vs ph1 => match ph1[n]?, dats vs with
      | some (.lst ds), some es => match f ds es with
        | some ds' => .nx env (ph1.set n (.lst ds'))
        | none => .bad
      | _, _ => .bad
    | _ => .bad
  | _ => .bad
theorem upd_keep {M : Addr → Prop} {H : Hp} {a : Addr} {o : HO} (h : M a) : KeepP M H (upd H a o) := fun b u e n => by
  have hb : b ≠ a := fun q => n (by rw [q]; exact h)
  rw [upd_ne hb]; exact e
theorem mut_core {id : String} {f : List D → List D → Option (List D)} (hm : MuS X id f) (i : Nat) {n : Str} (hN : X.N[i]? = some n) (h : SA X W es xs) {M0 H0 hd M m σ H env ph} (s : StR (kx X) M0 H0 hd M m σ H env ph) {D : Ends} (q : PostS X W M0 H0 hd m D (sMut i f xs env ph)) :
    ∃ w, σ[i]? = some (some w) ∧ tyV X.K "list" w H ∧ tWA X es σ H fun vs H2 => rWM X id w vs H2 fun _ H3 => D.nx σ H3 := by
  unfold sMut at q
  split at q
  · rename_i ds e
    obtain ⟨v, e1, a, rfl, ma, am, xsv, hH, rs⟩ := s.er.2 i _ e
    refine ⟨_, e1, .inl ⟨rfl, xsv, SqL.of hH⟩, h.bindS s q fun vals ph1 vs H1 fr s1 rv q1 => ?_⟩
    split at q1
    · rename_i es' ed
      split at q1
      · rename_i ds' ef
        intro pins st σ' v' us I rx rxs
        have hH1 := fr a _ hH am
        refine hm pins st σ' H1 a xsv vs v' us M ds es' ds' _ I rx rxs hH1 (Reps.keep (fr.keep s.rel) _ _ rs) (rv.dats ed) ef fun w ys ry => ?_
        exact q1 M σ _ (s1.mutOwn e e1 (fun b o hb z => by rw [upd_ne hb]; exact z) ⟨ys, upd_same, Reps.keep (upd_keep ma) _ _ ry⟩)
      · exact q1.elim
    · exact q1.elim
  · rename_i k e
    obtain ⟨v, e1, a, em, rfl⟩ := s.er.2 i _ e
    split at q
    · rename_i ds0 ek
      obtain ⟨xs0, hH0, _⟩ := s.rel.cont k a _ em ek
      refine ⟨_, e1, .inl ⟨rfl, xs0, SqL.of hH0⟩, h.bindS s q fun vals ph1 vs H1 fr s1 rv q1 => ?_⟩
      split at q1
      · rename_i ds es' ek1 ed
        split at q1
        · rename_i ds' ef
          intro pins st σ' v' us I rx rxs
          obtain ⟨xsv, hH1, rs⟩ := s1.rel.cont k a _ em ek1
          refine hm pins st σ' H1 a xsv vs v' us M ds es' ds' _ I rx rxs hH1 rs (rv.dats ed) ef fun w ys ry => ?_
          have ma := s1.rel.sub a (List.mem_of_getElem? em)
          exact q1 M σ _ (s1.mutRef em (fun b o hb z => by rw [upd_ne hb]; exact z) ⟨ys, upd_same, Reps.keep (upd_keep ma) _ _ ry⟩)
        · exact q1.elim
      · exact q1.elim
    · exact q.elim
  · exact q.elim
theorem st_mut {id : String} {name n : Str} {f : List D → List D → Option (List D)} (slot : Slot "list" name id) (hty : typeOf (.builtin id) = pure (.type "method_descriptor")) (hm : MuS X id f) (i : Nat) (h : SA X W (e :: es) xs)
    (hN : X.N[i]? = some n := by rfl) (hv : Vis X.env.scope n := by first | exact Or.inl rfl | exact Or.inr (Or.inl rfl) | exact Or.inr (Or.inr rfl)) (hd : (n == ("__debug__" : Str)) = false := by decide) (hcd : (n == ("__classdict__" : Str)) = false := by decide)
    (hs : swapsWith (.Call (.Attribute (.Name n p) name apos) (e :: es) [] cpos) none pos.line X.env = pure false := by rfl)
    (hbase : attributeBase (.Name n p) name X.env (eval (.Name n p) X.env) = eval (.Name n p) X.env := by rfl)
    (hfew : ((backTo cpos (starEach (e :: es) X.env)).all (fun x => !x.1) && (backToKw cpos (keywordEach [] X.env)).all (fun x => x.1.isSome)
      && decide ((e :: es).length + ([] : List Keyword).length + (if ([] : List Keyword).isEmpty then 0 else 1) < 30)) = true := by rfl)
    (hline : (apos.endLine == cpos.line) = true := by rfl) (hst : starEach (e :: es) X.env = (false, eval e X.env) :: starEach es X.env := by rfl) (hplain : (backTo cpos (starEach es X.env)).any (·.1) = false := by rfl) :
    SS X W (.Expr (.Call (.Attribute (.Name n p) name apos) (e :: es) [] cpos) pos) (sMut i f xs) := ⟨fun M0 H0 hd' M m σ H env ph s D q =>
  tWS_of (ps_expr (pe_bm F.plainAttrs_list slot hty rWM_mt (pe_var hN hv hd hcd) tWA_pa hbase hfew hline hst hplain) hs) (by
    obtain ⟨w, h1, h2, h3⟩ := mut_core hm i hN h s q
    exact ⟨w, h1, h2, h3⟩)⟩
def fApp : List D → List D → Option (List D) := fun ds es => match es with
  | [d] => if ds.length < lim then some (ds ++ [d]) else none
  | _ => none
theorem m_app : MuS X "list.append" fApp := by
  intro pins s σ H a xs vs v us M ds es ds' Q I rx rxs hH rs re ef k
  unfold fApp at ef
  split at ef
  · rename_i d
    split at ef
    · rename_i hl
      cases ef
      rw [Reps] at re
      obtain ⟨y, ys, rfl, r1, r2⟩ := re
      rw [Reps] at r2
      subst r2
      exact mt_append pins s σ H _ _ v us Q I rx rxs ⟨a, xs, y, rfl, rfl, hH, by rw [rs.length]; exact lim_lt (Nat.le_of_lt hl), k _ _ (rs.append (.cons r1 Reps.nil))⟩
    · cases ef
  · cases ef
def insOk (n : Nat) (i : Int) : Bool := decide (n < lim) && decide (0 ≤ i) && decide (i.natAbs < 1000000)
def fIns : List D → List D → Option (List D) := fun ds es => match es with
  | [.int i, d] => bif insOk ds.length i then some (ds.take i.toNat ++ [d] ++ ds.drop i.toNat) else none
  | _ => none
theorem m_ins : MuS X "list.insert" fIns := by
  intro pins s σ H a xs vs v us M ds es ds' Q I rx rxs hH rs re ef k
  unfold fIns at ef
  split at ef
  · rename_i i d
    rw [cond_eq_ite] at ef
    split at ef
    · rename_i hl
      unfold insOk at hl
      rw [Bool.and_eq_true, Bool.and_eq_true, decide_eq_true_eq, decide_eq_true_eq, decide_eq_true_eq] at hl
      cases ef
      rw [Reps] at re
      obtain ⟨z, zs, rfl, r0, r3⟩ := re
      rw [Reps] at r3
      obtain ⟨y, ys, rfl, r1, r2⟩ := r3
      rw [Reps] at r2
      subst r2
      rw [Rep] at r0
      subst r0
      exact mt_insert pins s σ H _ _ v us Q I rx rxs ⟨a, xs, i, y, rfl, rfl, hH, by rw [rs.length]; exact lim_lt (Nat.le_of_lt hl.1.1), hl.1.2, by omega, k _ _ (((rs.take _).append (.cons r1 Reps.nil)).append (rs.drop _))⟩
    · cases ef
  · cases ef
theorem Reps.erase {K : Kx} {M : Addr → Prop} {H : Hp} : ∀ {ds : List D} {xs : List V} (n : Nat), Reps K M H ds xs → Reps K M H (ds.eraseIdx n) (xs.eraseIdx n)
  | [], xs, n, h => by rw [Reps] at h; subst h; exact Reps.nil
  | e :: ds, xs, 0, h => by
    rw [Reps] at h
    obtain ⟨w, vs, rfl, q, rs⟩ := h
    exact rs
  | e :: ds, xs, n + 1, h => by
    rw [Reps] at h
    obtain ⟨w, vs, rfl, q, rs⟩ := h
    exact .cons q (rs.erase n)
def fPopAt : List D → List D → Option (List D) := fun ds es => match es with
  | [.int i] => (ixN ds.length i).bind fun k => if ds.length ≤ lim then some (ds.eraseIdx k) else none
  | _ => none
theorem m_popAt : MuS X "list.pop" fPopAt := by
  intro pins s σ H a xs vs v us M ds es ds' Q I rx rxs hH rs re ef k
  unfold fPopAt at ef
  split at ef
  · rename_i i
    cases hi : ixN ds.length i with
    | none => rw [hi] at ef; cases ef
    | some j =>
      rw [hi] at ef
      have ef : (if ds.length ≤ lim then some (ds.eraseIdx j) else none) = some ds' := ef
      split at ef
      · rename_i hl
        cases ef
        rw [Reps] at re
        obtain ⟨z, zs, rfl, r0, r3⟩ := re
        rw [Reps] at r3
        subst r3
        rw [Rep] at r0
        subst r0
        obtain ⟨h1, h2, h3, h4⟩ := ixN_seq hi
        have hl' : ds.length ≤ 1000000 := hl
        obtain ⟨y, ey, _⟩ := rs.get (List.getElem?_eq_getElem h2)
        exact mt_popAt pins s σ H _ _ v us Q I rx rxs ⟨a, xs, i, j, y, rfl, rfl, hH, by omega, by omega, by rw [rs.length]; exact h1, ey, k _ _ (rs.erase j)⟩
      · cases ef
  · cases ef
def fExt : List D → List D → Option (List D) := fun ds es => match es with
  | [.lst fs] => if ds.length + fs.length ≤ lim then some (ds ++ fs) else none
  | _ => none
theorem m_ext : MuS X "list.extend" fExt := by
  intro pins s σ H a xs vs v us M ds es ds' Q I rx rxs hH rs re ef k
  unfold fExt at ef
  split at ef
  · rename_i fs
    split at ef
    · rename_i hl
      cases ef
      rw [Reps] at re
      obtain ⟨z, zs, rfl, r0, r3⟩ := re
      rw [Reps] at r3
      subst r3
      rw [Rep] at r0
      obtain ⟨b, ys, rfl, t, r1⟩ := r0
      exact mt_extend pins s σ H _ _ v us Q I rx rxs ⟨a, b, xs, ys, rfl, rfl, hH, t.2, by rw [rs.length, r1.length]; exact lim_line hl, k _ _ (rs.append r1)⟩
    · cases ef
  · cases ef

/-! xs[i] = e -/
def sPut (i : Nat) (ix x : Ex) : Sx := fun env ph => match env[i]? with
  | some (some (.own (.lst ds))) => (x env ph).bindS env fun v ph1 => (ix env ph1).bindS env fun k ph2 => match v.dat, k with
    | some d, .d (.int k) => match ixN ds.length k with
      | some j => .nx (env.set i (some (.own (.lst (ds.set j d))))) ph2
      | none => .bad
    | _, _ => .bad
  | some (some (.ref n)) => (x env ph).bindS env fun v ph1 => (ix env ph1).bindS env fun k ph2 => match v.dat, k, ph2[n]? with
    | some d, .d (.int k), some (.lst ds) => match ixN ds.length k with
      | some j => .nx env (ph2.set n (.lst (ds.set j d)))
      | none => .bad
    | _, _, _ => .bad
  | _ => .bad
theorem st_put (i : Nat) {n : Str} (ha : SE X W a xa) (he : SE X W e xe) (hN : X.N[i]? = some n := by rfl) (hv : Vis X.env.scope n := by first | exact Or.inl rfl | exact Or.inr (Or.inl rfl) | exact Or.inr (Or.inr rfl)) (hd : (n == ("__debug__" : Str)) = false := by decide)
    (hcd : (n == ("__classdict__" : Str)) = false := by decide) (hs : swapsWithSole [.Subscript (.Name n p) a p2] e pos.line X.env = pure false := by rfl) (hw : swappedStores [.Subscript (.Name n p) a p2] e X.env = pure none := by rfl)
    (h1 : (assignEach [.Subscript (.Name n p) a p2] X.env).map (·.2) = [assign (.Subscript (.Name n p) a p2) X.env] := by rfl)
    (hpl : ∀ v, assign (.Subscript (.Name n p) a p2) X.env v = (do
      let ov ← holding [v] (eval (.Name n p) X.env)
      let iv ← holding [v, ov] (eval a X.env)
      standAt p2
      holding [v, ov, iv] (setItem ov iv v)
      release [v, ov, iv] []) := by intro _; rfl) : SS X W (.Assign [.Subscript (.Name n p) a p2] e pos) (sPut i xa xe) := ⟨fun M0 H0 hd' M m σ H env ph s D q =>
  tWS_of (ps_asg tW_pe (pg_sub (pe_var hN hv hd hcd) tW_pe set_list hpl) hs hw h1) (by
    unfold sPut at q
    split at q
    · rename_i ds ei
      obtain ⟨w, e1, a', rfl, ma, am, xsv, hH, rs⟩ := s.er.2 i _ ei
      refine he.bindS s q fun val ph1 v H1 fr s1 rv _ q1 => ⟨_, e1, ha.bindS s1 q1 fun kv ph2 kw H2 fr2 s2 rv2 _ q2 => ?_⟩
      split at q2
      · rename_i d k ed _
        split at q2
        · rename_i j ej
          rw [RV, Rep] at rv2
          have hH2 := fr2 a' _ (fr a' _ hH am) am
          refine ⟨a', xsv, k, j, rfl, rv2, hH2, by rw [rs.length]; exact ej, q2 M σ _ (s2.mutOwn ei e1 (fun b o hb z => by rw [upd_ne hb]; exact z) ⟨_, upd_same, Reps.keep (upd_keep ma) _ _ ?_⟩)⟩
          exact (Reps.keep ((fr.trans fr2).keep s.rel) _ _ rs).set (((rv.keep s1.rel fr2)).dat ed) j
        · exact q2.elim
      · exact q2.elim
    · rename_i nn ei
      obtain ⟨w, e1, a', em, rfl⟩ := s.er.2 i _ ei
      refine he.bindS s q fun val ph1 v H1 fr s1 rv _ q1 => ⟨_, e1, ha.bindS s1 q1 fun kv ph2 kw H2 fr2 s2 rv2 _ q2 => ?_⟩
      split at q2
      · rename_i d k ds ed ek _
        split at q2
        · rename_i j ej
          rw [RV, Rep] at rv2
          obtain ⟨xsv, hH2, rs⟩ := s2.rel.cont nn a' _ em ek
          have ma := s2.rel.sub a' (List.mem_of_getElem? em)
          refine ⟨a', xsv, k, j, rfl, rv2, hH2, by rw [rs.length]; exact ej, q2 M σ _ (s2.mutRef em (fun b o hb z => by rw [upd_ne hb]; exact z) ⟨_, upd_same, Reps.keep (upd_keep ma) _ _ ?_⟩)⟩
          exact rs.set (((rv.keep s1.rel fr2)).dat ed) j
        · exact q2.elim
      · exact q2.elim
    · exact q.elim)⟩
end
end Pyp

/-! Cells made of own lists; starred targets. -/
namespace Pyp
open PySem PySem.Spec PyProof.Rows L2

section
variable {K : Kx} {M0 M : Addr → Prop} {H0 H H' : Hp} {hd : V → D → Prop} {m : List Addr} {σ σ' : L2.St} {env env' : Env} {ph ph' : PH} {i n : Nat} {d : D} {v : V} {a : Addr}
theorem Rel.push (r : Rel K (MAdd M a) m H ph) (c : Cont K (MAdd M a) H a d) (na : a ∉ m) : Rel K (MAdd M a) (m ++ [a]) H (ph ++ [d]) := by
  refine ⟨by simp [r.len], ?_, fun b z => ?_, r.dom, fun j b e e1 e2 => ?_⟩
  · exact List.nodup_append.mpr ⟨r.nd, by simp, fun b hb c hc => by
      have : c = a := by simpa using hc
      subst this
      exact fun q => na (q ▸ hb)⟩
  · rcases List.mem_append.mp z with z | z
    · exact r.sub b z
    · have : b = a := by simpa using z
      subst this; exact .inr rfl
  · by_cases hj : j < m.length
    · rw [List.getElem?_append_left hj] at e1
      rw [List.getElem?_append_left (by rw [← r.len]; exact hj)] at e2
      exact r.cont j b e e1 e2
    · rw [List.getElem?_append_right (by omega)] at e1
      rw [List.getElem?_append_right (by rw [← r.len]; omega)] at e2
      rw [r.len] at e1
      have h1 : j - ph.length = 0 := by
        have := (List.getElem?_eq_some_iff.mp e2).1
        simp at this; exact this
      rw [h1] at e1 e2
      have q1 : a = b := by simpa using e1
      have q2 : d = e := by simpa using e2
      subst q1 q2
      exact c
theorem Rel.pop (r : Rel K (MAdd M a) (m ++ [a]) H ph) (s : ∀ b ∈ m, M b) : Rel K M m H ph.dropLast := by
  have hl : ph.length = m.length + 1 := by have := r.len; simpa using this.symm
  refine ⟨by rw [List.length_dropLast]; omega, (List.nodup_append.mp r.nd).1, s, fun b z => r.dom b (.inl z), fun j b e e1 e2 => ?_⟩
  have hj := (List.getElem?_eq_some_iff.mp e1).1
  rw [List.getElem?_dropLast] at e2
  rw [if_pos (by omega)] at e2
  exact (r.cont j b e (by rw [List.getElem?_append_left hj]; exact e1) e2).anti fun _ z => .inl z
theorem Frame.pop (f : Frame (m ++ [a]) H0 H') (h : H0 a = none) : Frame m H0 H' := fun b o e n => f b o e fun z => by
  rcases List.mem_append.mp z with z | z
  · exact n z
  · have : b = a := by simpa using z
    subst this
    rw [h] at e; cases e
def popV : Val → Bool
  | .d _ => true
  | .own _ => true
  | _ => false
theorem RV.pop {x : Val} (hx : popV x = true) (f : ∀ p, H p = none → H0 p = none) (h : RV K (MAdd M a) (m ++ [a]) H H' v x) : RV K M m H0 H' v x := by
  cases x with
  | d x => exact Rep.anti (fun _ z => .inl z) x v h
  | own x =>
    obtain ⟨b, e, n, nm, c⟩ := h
    exact ⟨b, e, f b n, fun z => nm (.inl z), c.anti fun _ z => .inl z⟩
  | _ => cases hx
theorem RO.pop {x : Val} (s : ∀ b ∈ m, M b) (h : RO K (MAdd M a) (m ++ [a]) H' ph v x) : RO K M m H' ph.dropLast v x := fun d e b eb => by
  obtain ⟨r, c⟩ := h d e b eb
  have k : ∀ c, MAdd M b c → MAdd (MAdd M a) b c := fun c z => z.elim (fun z => .inl (.inl z)) .inr
  refine ⟨?_, c.anti k⟩
  have r2 : Rel K (MAdd (MAdd M b) a) (m ++ [a]) H' ph := ⟨r.len, r.nd, fun c z => (r.sub c z).elim (fun z => z.elim (fun z => .inl (.inl z)) .inr) fun z => .inl (.inr z), fun c z => r.dom c (z.elim (fun z => z.elim (fun z => .inl (.inl z)) .inr) fun z => .inl (.inr z)), fun n a' d' e1 e2 => (r.cont n a' d' e1 e2).anti fun c z => z.elim (fun z => z.elim (fun z => .inl (.inl z)) .inr) fun z => .inl (.inr z)⟩
  exact r2.pop fun c z => .inl (s c z)
end
def popC : Res Val → Res Val
  | .ok v ph => if popV v = true then .ok v ph.dropLast else .bad
  | .exc c fs ph => .exc c fs ph.dropLast
  | .bad => .bad
/-- a list just made, handed on as a cell -/
def eCallC (f : Fn) (x : Ex) : Ex := fun env ph => (x env ph).bind fun v ph1 => match v with
  | .own d => popC (f [.ref ph1.length] (ph1 ++ [d]))
  | _ => .bad
section
variable {X : Cx} {W : WX} {k : Nat} {name : Str} {f : Fn} {e : Expr} {x : Ex} {p pos : Pos}
theorem ExR.pop {mg : Str → Option Value} {K : Kx} {M : Addr → Prop} {a : Addr} {H : Hp} {c : Str} {fs : List (Str × D)} {cls : Value} {d : Option Addr} (h : ExR mg K (MAdd M a) H c fs cls d) : ExR mg K M H c fs cls d := by
  obtain ⟨C, e1, e2, e3⟩ := h
  refine ⟨C, e1, e2, ?_⟩
  cases fs with
  | nil => exact e3
  | cons p t => obtain ⟨dd, v, z1, z2, z3⟩ := e3; exact ⟨dd, v, z1, z2, Rep.anti (fun _ z => .inl z) _ _ z3⟩
theorem s_callC {kws : List (List Str × List Nat)} (F : FnAt X.prog X.w X.K X.mg X.base k name 1 f kws) (hr : Room k X.A) (tk : Takes X W) (ha : SE X W e x) (hg : Gl X name := by rfl) (hdb : (name == ("__debug__" : Str)) = false := by decide)
    (he : starEach [e] X.env = (false, eval e X.env) :: starEach [] X.env := by rfl) (hpl : (backTo pos (starEach [] X.env)).any (·.1) = false := by rfl) : SE X W (.Call (.Name name p) [e] [] pos) (eCallC f x) := by
  obtain ⟨fa, fd, ps, FO, hm, hk, hb, _⟩ := F.ex
  refine ⟨fun M m σ H env ph r er Q q => tW_of (pe_callS FO hr hg hm hk hb (fun σ => passAt tk σ) (pa_cons tW_pe pa_nil he) hdb he hpl) ?_⟩
  have q' : Post X W M m σ H (GE X M m H Q) ((x env ph).bind fun v ph1 => match v with
    | .own d => popC (f [.ref ph1.length] (ph1 ++ [d]))
    | _ => .bad) := q
  refine ha.run M m σ H env ph r er _ ?_
  cases hx : x env ph with
  | bad => rw [hx] at q'; exact q'.elim
  | exc c fs ph1 => rw [hx] at q'; exact q'
  | ok val ph1 =>
  rw [hx] at q'
  intro v H1 fr r1 rv ro
  cases val with
  | own d =>
    obtain ⟨a, rfl, h1, h2, h3⟩ := rv
    obtain ⟨ra, ca⟩ := ro d rfl a rfl
    have na : a ∉ m := fun z => h2 (r1.sub a z)
    have r2 := ra.push ca na
    have ia : ∀ y ∈ [Val.ref ph1.length], IsArg y := fun y hy => by
      have : y = .ref ph1.length := by simpa using hy
      subst this; exact trivial
    refine ⟨rfl, MAdd M a, m ++ [a], ph1 ++ [d], [.ref ph1.length], r2, ia, ⟨.ref a, [], rfl, ⟨a, ?_, rfl⟩, rfl⟩, ?_⟩
    · rw [← r1.len]; simp
    · have sub : ∀ b ∈ m, M b := r1.sub
      have q2 : Post X W M m σ H (GE X M m H Q) (popC (f [.ref ph1.length] (ph1 ++ [d]))) := q'
      cases hf : f [.ref ph1.length] (ph1 ++ [d]) with
      | bad => rw [hf] at q2; exact q2.elim
      | exc c fs ph2 =>
        rw [hf] at q2
        refine fun cls dd H' fr' r' ex => q2 cls dd H' (fun b o hb nb => fr' b o (fr b o hb nb) fun z => ?_) (r'.pop sub) ex.pop
        rcases List.mem_append.mp z with z | z
        · exact nb z
        · have : b = a := by simpa using z
          subst this; rw [h1] at hb; cases hb
      | ok y ph2 =>
        rw [hf] at q2
        have q3 : Post X W M m σ H (GE X M m H Q) (if popV y = true then .ok y ph2.dropLast else .bad) := q2
        split at q3
        · rename_i hy
          refine fun w H' fr' r' rv' ro' => q3 w H' ((fun b o hb nb => fr' b o (fr b o hb nb) fun z => ?_)) (r'.pop sub) (rv'.pop hy fun p hp => fr.back r1 hp) (ro'.pop sub)
          rcases List.mem_append.mp z with z | z
          · exact nb z
          · have : b = a := by simpa using z
            subst this; rw [h1] at hb; cases hb
        · exact q3.elim
  | _ => exact q'.elim
end
/-! a local list becomes a cell, to the end of the block -/
def popO : Out → Out
  | .ret v ph => if popV v = true then .ret v ph.dropLast else .bad
  | .nx env ph => .nx [] ph.dropLast
  | _ => .bad
def sCell (i : Nat) (b : Sx) : Sx := fun env ph => match env[i]? with
  | some (some (.own x)) => match b (env.set i (some (.ref ph.length))) (ph ++ [x]) with
    | .ret v ph' => if popV v = true then .ret v ph'.dropLast else .bad
    | _ => .bad
  | _ => .bad
theorem st_cell {X : Cx} {W : WX} {st : List Stmt} {b : Sx} (i : Nat) (h : SB X W st b) : SB X W st (sCell i b) := ⟨fun M0 H0 hd M m σ H env ph s D q => by
  unfold sCell at q
  split at q
  · rename_i x e
    obtain ⟨v, e1, a, rfl, ma, am, c⟩ := s.er.2 i _ e
    obtain ⟨h0, n0⟩ := s.own i x a e e1
    have hi : i < env.length := (List.getElem?_eq_some_iff.mp e).1
    have eqM : ∀ b, MAdd M a b → M b := fun b z => z.elim id fun q => q ▸ ma
    have r1 : Rel (kx X) (MAdd M a) m H ph := ⟨s.rel.len, s.rel.nd, fun b z => .inl (s.rel.sub b z), fun b z => s.rel.dom b (eqM b z), fun n b d z1 z2 => (s.rel.cont n b d z1 z2).anti eqM⟩
    have r2 := r1.push (c.anti eqM) am
    have lm : m.length = ph.length := s.rel.len
    have notin : ∀ (j : Nat) (y : Pyp.D) (b : Addr), i ≠ j → env[j]? = some (some (.own y)) → σ[j]? = some (some (V.ref b)) → b ≠ a := fun j y b ne e2 e3 q => s.sep i j x y a ne e e2 e1 (q ▸ e3)
    have s' : StR (kx X) (MAdd M0 a) H0 hd (MAdd M a) (m ++ [a]) σ H (env.set i (some (.ref ph.length))) (ph ++ [x]) := by
      refine ⟨r2, ⟨by simp [s.len], fun j y ey => ?_⟩, by simp [s.len], fun b z => z.elim (fun z => .inl (s.sub b z)) .inr, fun b z => ?_, fun b o hb nb => s.fr b o hb fun z => nb (List.mem_append_left _ z), fun j y b e2 e3 => ?_, fun j k y z b ne e2 e3 e4 e5 => ?_, fun v d z => Rep.anti eqM d v (s.held v d z)⟩
      · by_cases hj : i = j
        · subst hj
          rw [List.getElem?_set_self hi] at ey; cases ey
          exact ⟨_, e1, a, by rw [← lm]; simp, rfl⟩
        · rw [List.getElem?_set_ne hj] at ey
          obtain ⟨w, w1, w2⟩ := s.er.2 j y ey
          refine ⟨w, w1, ?_⟩
          cases y with
          | d y => exact Rep.anti eqM y w w2
          | own y =>
            obtain ⟨b, eb, z1, z2, z3⟩ := w2
            subst eb
            refine ⟨b, rfl, .inl z1, fun z => ?_, z3.anti eqM⟩
            rcases List.mem_append.mp z with z | z
            · exact z2 z
            · exact notin j y b hj ey w1 (by simpa using z)
          | bor y => exact w2.elim
          | ref n =>
            obtain ⟨b, z1, z2⟩ := w2
            exact ⟨b, by rw [List.getElem?_append_left (List.getElem?_eq_some_iff.mp z1).1]; exact z1, z2⟩
      · rcases List.mem_append.mp z with z | z
        · exact .inl (s.mem b z)
        · exact .inr (by simpa using z)
      · have hj : i ≠ j := fun q => by subst q; rw [List.getElem?_set_self hi] at e2; cases e2
        rw [List.getElem?_set_ne hj] at e2
        obtain ⟨z1, z2⟩ := s.own j y b e2 e3
        exact ⟨z1, fun z => z.elim z2 (notin j y b hj e2 e3)⟩
      · have hj : i ≠ j := fun q => by subst q; rw [List.getElem?_set_self hi] at e2; cases e2
        have hk : i ≠ k := fun q => by subst q; rw [List.getElem?_set_self hi] at e3; cases e3
        rw [List.getElem?_set_ne hj] at e2
        rw [List.getElem?_set_ne hk] at e3
        exact s.sep j k y z b ne e2 e3 e4 e5
    have sub0 : ∀ b ∈ m, M0 b := s.mem
    refine h.run (MAdd M0 a) H0 hd (MAdd M a) (m ++ [a]) σ H _ _ s' D ?_
    cases hb : b (env.set i (some (.ref ph.length))) (ph ++ [x]) with
    | ret v ph' =>
      rw [hb] at q
      have q : PostS X W M0 H0 hd m D (if popV v = true then .ret v ph'.dropLast else .bad) := q
      split at q
      · rename_i hy
        exact fun w H' fr' r' rv' ro' => q w H' (fr'.pop h0) (r'.pop sub0) (rv'.pop hy fun _ z => z) (ro'.pop sub0)
      · exact q.elim
    | _ => rw [hb] at q; exact q.elim
  · exact q.elim⟩

/-! ### (a, b, *c) = t -/
end Pyp

/-! (a, b, *c) = t -/
namespace Pyp
open PySem PySem.Spec PyProof.Rows L2

theorem shiftW {prog : Program} {w : World} {A : Around} {I : Addr} {fp wr : List Addr} {n : Nat} {P : Nat → Value → Prop} {St : Nat → Heap → Prop} (W : Walks prog w A I fp wr n P St) (k : Nat) (hk : k ≤ n) : Walks prog w A I fp wr (n - k) (fun i => P (i + k)) (fun i => St (i + k)) where
  sub := W.sub
  frame := fun i h h' st q => W.frame (i + k) h h' st q
  item := fun i s Q E hi st hQ => W.item (i + k) s Q E (by omega) st fun v h' tk p st' q => hQ v h' tk p (by rw [show i + 1 + k = i + k + 1 by omega]; exact st') q
  done := fun s Q E st hQ => W.done s Q E (by rw [show n = n - k + k by omega]; exact st) hQ
  self := fun i s Q E st q => W.self (i + k) s Q E st q
section
variable {prog : Program} {w : World} {A : Around} {E : Value → Shared → Prop} {s : Shared}
theorem unpackStar {t : Addr} {items : Array Value} {i : Nat} {Q : List Value → Shared → Prop} (hh : A.handled = none) (ht : IsTup s.heap t items) (hi : i ≤ items.size) (hz : items.size ≤ sizeLine)
    (hQ : ∀ (h' : Heap) (tk : Nat), (∀ b o, s.heap.get? b = some o → h'.get? b = some o) → Q (items.toList.take i ++ [.ref h'.objs.size]) { s with heap := h'.push { cls := .type "list", data := .seq (items.toList.drop i).toArray }, toks := tk }) :
    wpAny (model prog w) A (unpackItems (.ref t) (i + 1) (some i)) Q E s := by
  have hlt : t ≠ s.heap.objs.size := by obtain ⟨o, ho, _⟩ := ht; exact Nat.ne_of_lt (Heap.lt_size ho)
  unfold unpackItems
  refine wpAny_bind ?_
  unfold notIterableAtAll
  refine wpAny_bind (wpAny_specialOf ht.typeIs slot_tuple_iter.lookup ?_)
  refine wpAny_pure ?_
  simp only [Bool.false_eq_true, if_false]
  refine wpAny_bind (wpAny_holding (iter_tuple ht ?_))
  refine wpAny_bind (wpAny_holding (draw_tuple hlt i 0 _ _ ⟨_, Heap.get?_push_size _ rfl, rfl, rfl⟩ (ht.push _) (by omega) fun h₁ hit₁ hs₁ => ?_))
  have hl : ¬ ((List.take i (List.drop 0 items.toList)).length < i) := by simp; omega
  rw [if_neg hl]
  have ht₁ : IsTup h₁ t items := (ht.push _).extBut hs₁.extBut hlt
  have hit₁' : IsTupIter h₁ s.heap.objs.size t i := by simpa using hit₁
  have hlt1 : ∀ b ∈ [s.heap.objs.size, t], b < h₁.objs.size := by
    intro b hb
    rcases List.mem_cons.mp hb with e | hb
    · obtain ⟨o, ho, _⟩ := id hit₁'
      rw [e]; exact Heap.lt_size ho
    · have e : b = t := by simpa using hb
      obtain ⟨o, ho, _⟩ := id ht₁
      rw [e]; exact Heap.lt_size ho
  have WW := (shiftW (Walks.tuple (prog := prog) (w := w) (A := A.in1) (by exact hh) s.heap.objs.size t hlt items) i hi).toS
  have hIt : h₁.IsTupleIter s.heap.objs.size t i := hit₁'
  have hTu : h₁.IsTuple t items := ht₁
  refine wpAny_bind (wpAny_holding (wpAny_collect_iter (.inr (.inr (.inr rfl))) WW (fun j s' st => ?_) (by rw [Nat.zero_add]; exact ⟨hIt, hTu⟩) hlt1 List.mem_cons_self (fun s' acc hm hacc => ?_) (by omega)))
  · obtain ⟨⟨o, ho, hc, _⟩, _⟩ := st
    exact ⟨o, ho, hc⟩
  · have eacc : acc.toList = items.toList.drop i := by
      apply List.ext_getElem?
      intro j
      rw [Array.getElem?_toList, List.getElem?_drop, Array.getElem?_toList]
      by_cases hj : j < acc.size
      · have e1 : acc[j]? = some acc[j] := by simp [hj]
        rw [e1, Nat.add_comm]
        exact (hacc.2 j _ e1).symm
      · rw [Array.getElem?_eq_none (by omega), Array.getElem?_eq_none (by have := hacc.1; omega)]
    obtain ⟨h2, g2, d2, tk2, os2⟩ := s'
    have eg : g2 = s.gens := hm.gens
    have ed : d2 = s.drawn := hm.drawn
    have eo : os2 = s.os := hm.os
    subst eg; subst ed; subst eo
    rw [eacc]
    have hl2 : ¬ ((items.toList.drop i).length < i + 1 - 1 - i) := by omega
    show wpAny _ _ (if (items.toList.drop i).length < i + 1 - 1 - i then _ else _) _ _ _
    rw [if_neg hl2]
    have e0 : (items.toList.drop i).length - (i + 1 - 1 - i) = (items.toList.drop i).length := by omega
    have et : List.take i (List.drop 0 items.toList) = items.toList.take i := by rw [List.drop_zero]
    rw [et]
    show wpAny _ _ (newList (List.take ((items.toList.drop i).length - (i + 1 - 1 - i)) (items.toList.drop i)) >>= fun l => pure (items.toList.take i ++ [l] ++ List.drop ((items.toList.drop i).length - (i + 1 - 1 - i)) (items.toList.drop i))) _ _ _
    rw [e0, List.take_length, List.drop_length]
    refine wpAny_bind (wpAny_newList (wpAny_pure ?_) (by rw [List.length_drop, Array.length_toList]; omega))
    rw [List.append_nil]
    refine hQ h2 tk2 fun b o e => hm.heap b o (fun z => ?_) (hs₁.extBut b o (fun z => ?_) (Heap.get?_push_of_some _ e))
    · have : b = s.heap.objs.size := by simpa using z
      subst this; exact absurd (Heap.lt_size e) (Nat.lt_irrefl _)
    · subst z; exact absurd (Heap.lt_size e) (Nat.lt_irrefl _)
end
def gTupS (K : PySem.W.Frag) (n : Nat) (t : TGs) : TG := fun v σ H Q => ∃ a xs, v = .ref a ∧ SqT K H a xs ∧ n ≤ xs.length ∧ ∀ p, H p = none → t (xs.take n ++ [.ref p]) σ (upd H p (.lst (xs.drop n))) Q
section
variable {X : Cx} {e : Expr} {es : List Expr} {pos p : Pos}
theorem pg_tupS {k : Nat} {t : TGs} {n : Nat} (hc : X.calm = true) (h : PGs X es t) (hn : (assignEach es X.env).length = n + 1 := by rfl) (hst : (assignEach es X.env).findIdx? (·.1) = some n := by rfl) : PG X (.Tuple es k pos) (gTupS X.K n t) := by
  refine ⟨fun pins s σ H v u Q I r hw => ?_⟩
  obtain ⟨a, xs, e1, hq, hl, hw⟩ := hw
  subst e1
  cases r
  obtain ⟨its, rv, ht, hz⟩ := I.tuple hq
  have hlen := rv.length
  rw [assign_Tuple]
  refine wpAny_bind (wpAny_standAt ?_)
  unfold unpack
  rw [hn, hst]
  refine wpAny_bind (wpAny_holding (unpackStar (I.ok.hd hc) ht (by rw [List.size_toArray]; omega) (by rw [List.size_toArray]; omega) fun h' tk hk => ?_))
  have I1 : Inv X pins σ H { s with heap := h', toks := tk } := I.kept hk
  have I2 : Inv X pins σ (upd H h'.objs.size (.lst (xs.drop n))) { s with heap := h'.push { cls := .type "list", data := .seq (its.drop n).toArray }, toks := tk } :=
    I1.laid (t' := tk) (fun b o e => Heap.get?_push_of_some _ e) (Nat.le_refl _) (show ObjOk X.prog X.w _ _ _ (.lst (xs.drop n)) from ⟨by rw [List.length_drop]; omega, its.drop n, 0, rv.drop n, Heap.get?_push_size _ rfl⟩)
  exact h.run pins _ σ _ (xs.take n ++ [.ref h'.objs.size]) _ Q I2 ((rv.take n).append (.cons (show RelV (.ref _) (.ref _) from rfl) .nil)) (hw _ (I1.hok.fresh (Nat.le_refl _)))
theorem pgs_star {t : TG} (h1 : PG X e t) (hs : (assignEach [.Starred e p] X.env).map (·.2) = [assign e X.env] := by rfl) : PGs X [.Starred e p] (gCons t gNil) := by
  refine ⟨fun pins s σ H vs us Q I r h => ?_⟩
  obtain ⟨v, vr, e1, h⟩ := h
  subst e1
  cases r with
  | cons r rr =>
    rw [hs]
    refine assignInOrder_cons (thn (h1.run pins s σ H _ _ _ I r h) fun _ s1 ⟨σ1, H1, I1, q1⟩ => ?_)
    obtain ⟨e2, q⟩ := q1
    subst e2
    cases rr
    exact assignInOrder_nil ⟨σ1, H1, I1, q⟩
variable {g : Gx} {gs : Gsx} {sl : List Nat}
theorem gs_star (h1 : SG X e g sl) (hs : (assignEach [.Starred e p] X.env).map (·.2) = [assign e X.env] := by rfl) : SGs X [.Starred e p] (gsCons g gsNil) sl := ⟨fun M m σ H env ph ds vs env' rl er hl r h Q q => tWGs_of (pgs_star tWG_pg hs) (by
  cases ds with
  | nil => cases h
  | cons d ds =>
    rw [Reps] at r
    obtain ⟨v, vs, rfl, r1, r2⟩ := r
    have h' : (g d env).bind (fun env1 => gsNil ds env1) = some env' := h
    cases hg : g d env with
    | none => rw [hg] at h'; cases h'
    | some env1 =>
      rw [hg] at h'
      cases ds with
      | cons d2 ds => cases h'
      | nil =>
        cases h'
        rw [Reps] at r2
        subst r2
        exact ⟨v, [], rfl, h1.run M m σ H env ph d v _ rl er hl r1 hg _ fun σ1 H1 f1 rl1 er1 c1 => ⟨rfl, q σ1 H1 f1 rl1 er1 c1⟩⟩)⟩
def gTS (n : Nat) (gs : Gsx) : Gx := fun d env => match d with
  | .tup ds => if n ≤ ds.length then gs (ds.take n ++ [.lst (ds.drop n)]) env else none
  | _ => none
theorem g_tupS {k : Nat} (n : Nat) (hc : X.calm = true) (h : SGs X es gs sl) (hn : (assignEach es X.env).length = n + 1 := by rfl) (hst : (assignEach es X.env).findIdx? (·.1) = some n := by rfl) : SG X (.Tuple es k pos) (gTS n gs) sl :=
  ⟨fun M m σ H env ph d v env' rl er hl r hg Q q => by
    cases d with
    | tup ds =>
      have hg' : (if n ≤ ds.length then gs (ds.take n ++ [.lst (ds.drop n)]) env else none) = some env' := hg
      split at hg'
      · rename_i hl2
        rw [Rep] at r
        obtain ⟨a, xs, e, t, rs⟩ := r
        refine tWG_of (pg_tupS hc tWGs_pgs hn hst) ⟨a, xs, e, t.sq, by rw [rs.length]; exact hl2, fun p hp => ?_⟩
        have f0 : Frame m H (upd H p (.lst (xs.drop n))) := Frame.new hp
        have rl0 := rl.new (o := .lst (xs.drop n)) hp
        have kp := keep_new (M := M) (o := HO.lst (xs.drop n)) hp
        refine h.run M m σ _ env ph _ _ env' rl0 (er.keep rl f0) hl ((Reps.keep kp _ _ (rs.take n)).append (.cons ?_ Reps.nil)) hg' Q fun σ' H' f' r' er' c => q σ' H' (f0.trans f') r' er' c
        rw [Rep]
        exact ⟨p, _, rfl, ⟨rl.notM hp, upd_same⟩, Reps.keep kp _ _ (rs.drop n)⟩
      · cases hg'
    | _ => cases hg⟩
end
end Pyp

/-! An own error with a field (lines of skel/42_own_error_by_import turned to this class), raised and caught. -/
namespace PySem
namespace LowX
open PySem.W PySem.Calls PyProof.Rows PySem.HandSPX
abbrev leTail : List Value := [.type "LookupError", .type "Exception", .type "BaseException", .type "object"]
def leMro (C : Addr) (l : List Value) : Prop := l = .ref C :: leTail
section
open Builtin Builtin.ObjectAttr
variable {prog : Program} {w : World} {A : Around} {E : Value → Shared → Prop} {R : Result → Shared → Prop} {hp : Heap} {g : Array GenState} {d : Drawn} {t : Nat} {os : OsState}
/-- self.name = v in __init__ of an own class over LookupError: the instance had no dict -/
theorem osaL {K : W.Frag} {name : Str} {tk : Tok} {v : Value} {x C : Addr} {fv : Array Value} {cd : ClassData} (X : K.In hp) (hx : hp.get? x = some { cls := .ref C, data := .fields fv }) (hcd : W.clsIn K C = some cd) (hm : leMro C cd.mro) (hh : cd.hasDict = true)
    (ha : W.findIn K (.ref C) name = some none) (hq : ∀ h' tk' dx, (∀ b o, b ≠ x → hp.get? b = some o → h'.get? b = some o) → hp.objs.size ≤ dx → dx ≠ x → h'.get? x = some { cls := .ref C, dict := some dx, data := .fields fv } →
      h'.Ns1 dx (fun y => if y = name then some v else none) → R (.ok (.ret .none)) ⟨h', g, d, tk', os⟩) : codeAny (model prog w) A (.call (.builtin "object.__setattr__") ⟨[.ref x, .str name tk, v], []⟩) R ⟨hp, g, d, t, os⟩ := by
  have IA : W.InstAt hp x { cls := .ref C, data := .fields fv } C none := ⟨hx, rfl, rfl, trivial⟩
  have SF := F.store_object
  have em : cd.mro = .ref C :: leTail := hm
  have ne : cd.mro.isEmpty = false := by rw [em]; rfl
  have hob : cd.mro.contains (.type "object") = true := by rw [em, List.contains_cons, show leTail.contains (.type "object") = true by decide +kernel, Bool.or_true]
  have hxs : x ≠ hp.objs.size := Nat.ne_of_lt (Heap.lt_size hx)
  have sub : W.Looks (model prog w) hp (isInstance (.ref x) (.type "object")) true := IA.type.andThen (W.looks_mroIn X (by unfold W.mroIn; rw [hcd, Option.bind_some, if_neg (by rw [ne]; decide), hob]))
  refine codeAny_call_builtin SF.slot.plain SF.entry (@W.check_slot (model prog w) _ _ ⟨hp, g, d, t, os⟩ "object.__setattr__" "object" "__setattr__" (.ref x) [.str name tk, v] [] _ SF.kind SF.split sub (SF.args (.ref x) (.str name tk) v) ?_)
  have hmr : W.Looks (model prog w) hp (mroOf (.ref C)) cd.mro := (W.looks_clsIn X hcd).andThen .now
  have nt : W.Looks (model prog w) hp (storeTaker? none) none := .now
  have hcls : W.Looks (model prog w) hp (classData C) cd := W.looks_clsIn X hcd
  rw [W.osa_eq, refuse_eq]
  refine wpAny_bind (wpAny_bind (IA.type.at (wpAny_bind (hmr.at ?_))))
  rw [em, refuseLoop_ref, F.store_LookupError.passes]
  refine wpAny_pure (wpAny_bind (IA.type.at (wpAny_bind ((W.looks_findIn X ha).at (wpAny_bind (nt.at ?_))))))
  show wpAny _ _ (storeInOwnDict (.ref x) (.ref C) (.str name tk) name v false) _ _ _
  obtain ⟨nm, bs, mro, ns, qn, hd, sn, sb, ab, col, del⟩ := cd
  dsimp only at hh
  subst hh
  unfold storeInOwnDict ownDictForStores
  repeat (first | with_reducible refine store_in_new ?_ ?_ | with_reducible refine wpAny_loadPart_at hx ?_ | with_reducible refine hcls.at ?_ | wp_step)
  · exact ⟨_, #[], _, (Heap.get?_update_ne _ _ _ _ hxs.symm).trans (Heap.get?_push_at rfl rfl), rfl, fun e he => absurd he (by simp), fun _ => rfl⟩
  · intro h' tk' hn' hs
    have hx₁ : (hp.push { cls := .type "dict", data := .dict #[] }).get? x = some { cls := .ref C, data := .fields fv } := Heap.get?_push_of_some _ hx
    refine hq h' tk' hp.objs.size (fun b o hb ho => ?_) (Nat.le_refl _) hxs.symm ?_ hn'
    · exact (hs.2 b (Nat.ne_of_lt (Heap.lt_size ho))).trans ((Heap.get?_update_ne _ _ _ _ hb).trans (Heap.get?_push_of_some _ ho))
    · exact (hs.2 x hxs).trans (Heap.get?_update_self _ hx₁ rfl)
end
end LowX
end PySem
namespace PySem
namespace LowX
open PySem.W PySem.Calls PyProof.Rows PySem.HandSPX
/-! ### the text of __init__ -/
def iA (p1 p2 : Pos) : Arguments := { posonlyargs := [], args := [{ arg := "self", annotation := none, pos := p1 }, { arg := "place", annotation := none, pos := p2 }], vararg := none, kwonlyargs := [], kw_defaults := [], kwarg := none, defaults := [] }
def iB (q1 q2 q3 q4 : Pos) : List Stmt := [.Assign [.Attribute (.Name "self" q1) "place" q2] (.Name "place" q3) q4]
def iS : Scope := { kind := .function, names := [(PySem.Str.ofString "self", .local), (PySem.Str.ofString "place", .local)], isGenerator := false, isCoroutine := false, more := [] }
/-- what the written part says of Low, at C, and of its __init__, at fI -/
structure LowTxt (K : Frag) (mg : Str → Option Value) (C fI : Addr) : Prop where
  gC : mg "NoPlace" = some (.ref C)
  cls : ∃ nm q N bs bm sn sub ab col dd k0 k1 k2 k3 k5, K.lookup C = some (excClassObj nm q C N bs bm true sn sub ab col dd k0 k1 k2 k3 k5 "LookupError.__new__") ∧ bm = leTail
  sa : findIn K (.ref C) "__setattr__" = some (some (.builtin "object.__setattr__"))
  ga : findIn K (.ref C) "__getattribute__" = some (some (.builtin "BaseException.__getattribute__"))
  gg : findIn K (.ref C) "__getattr__" = some none
  noN : findIn K (.ref C) "place" = some none
  iC : findIn K (.ref C) "__init__" = some (some (.ref fI))
  tC : typeIn K (.ref fI) = some (.type "function")
  kC : keepIn K (.ref C) = true
  exC : subIn K (.ref C) (.type "BaseException") = some true
  tyC : typeIn K (.ref C) = some (.type "type")
  hdC : hasDictIn K C = true
  te : exmOne K (.ref C) (.ref C) = some true
  fn : ∃ (oc : Value) (od : Option Addr) (doc pm : Value) (an : Option Addr) (cdv ct : Value) (osl : Array (Option Value)) (p1 p2 q1 q2 q3 q4 : Pos),
    K.lookup fI = some ⟨oc, od, .func (fnOf "__init__" "NoPlace.__init__" (iA p1 p2) (iB q1 q2 q3 q4) iS .none .none doc pm an cdv ct), osl⟩ ∧ codeIn K cdv "NoPlace.__init__" = true
theorem one_size (v : Value) : [v].length ≤ sizeLine := by
  rw [sizeLine_eq]
  exact (by decide : 1 ≤ 16777216)
theorem kept_but {K : Frag} {h h' : Heap} {x : Addr} (X : K.In h) (hx : K.lookup x = none) (k : ∀ b o, b ≠ x → h.get? b = some o → h'.get? b = some o) : K.In h' := fun a o e =>
  k a o (fun z => by rw [z, hx] at e; cases e) (X a o e)
theorem ldC {M : Model} {s : Shared} {name : Str} {scope : Scope} {L a : Addr} {cd : Value} {m : Str → Option Value} {x : Str} {pos : Pos} {v : Value} {Q : Value → Shared → Prop} {A : Around} {E : Value → Shared → Prop} (hn : s.heap.Ns L m) (hv : m x = some v) (h : Q v s)
    (hk : scope.kind = .function := by rfl) (hl : (envOfC name scope L a cd).kindOf x = some .local := by rfl) (hd : (x == ("__debug__" : Str)) = false := by decide) :
    wpAny M A (eval (.Name x pos) (envOfC name scope L a cd)) Q E s := wpAny_Name (wpAny_loadName_local hk hl hn hv h) hd
/-- what __init__ leaves of a fresh exception at x -/
structure InitEnd (h h' : Heap) (x C dx t1 : Addr) (v : Value) : Prop where
  keep : ∀ b o, b ≠ x → h.get? b = some o → h'.get? b = some o
  obj : h'.get? x = some { cls := .ref C, dict := some dx, data := .fields #[.ref t1, .none, .none, .none, .bool false, .none] }
  dbig : h.objs.size ≤ dx
  dne : dx ≠ x
  ns : h'.Ns1 dx (fun y => if y = "place" then some v else none)
/-- a made Low -/
structure OwnMade (h h' : Heap) (e C d : Addr) (v : Value) : Prop where
  keep : ∀ b o, h.get? b = some o → h'.get? b = some o
  new : h.objs.size ≤ e
  obj : ∃ oe vs, h'.get? e = some oe ∧ oe.cls = .ref C ∧ oe.dict = some d ∧ oe.data = .fields vs ∧ vs[1]? = some .none
  dbig : h.objs.size ≤ d
  dne : d ≠ e
  ns : h'.Ns1 d (fun y => if y = "place" then some v else none)
section
variable {prog : Program} {w : World} {A : Around} {E : Value → Shared → Prop} {R : Result → Shared → Prop} {s : Shared} {K : Frag} {mg : Str → Option Value} {C fI : Addr}
theorem low_init (T : LowTxt K mg C fI) {x t0 : Addr} {v : Value} (X : K.In s.heap) (hlim : s.heap.NoLimit) (hx : s.heap.get? x = some (excO C t0)) (hnx : K.lookup x = none) (hroom : A.depth < recursionLimit)
    (hq : ∀ h' tk dx, InitEnd s.heap h' x C dx t0 v → R (.ok (.ret .none)) { s with heap := h', toks := tk }) :
    codeAny (model prog w) A (.call (.ref fI) ⟨[.ref x, v], []⟩) R s := by
  obtain ⟨oc, od, doc, pm, an, cdv, ct, osl, p1, p2, q1, q2, q3, q4, ho, hcd⟩ := T.fn
  obtain ⟨nm, q, N, bs, bm, sn, sub, ab, col, dd, k0, k1, k2, k3, k5, hC, hbm⟩ := T.cls
  have hcl : clsIn K C = some { name := nm, bases := bs, mro := .ref C :: bm, ns := N, qualname := q, hasDict := true, slotNames := sn, subclasses := sub, abstract := ab, collection := col, hasDel := false } := by unfold clsIn; rw [hC] <;> rfl
  refine Att.call_fn (binds := [("self", .ref x), ("place", v)]) X hlim ho hcd hroom (BindsTo.of_eq (by first | rfl | with_unfolding_all rfl)) (by first | rfl | decide | with_unfolding_all rfl) (fun s₁ IC => ?_) rfl rfl rfl
  obtain ⟨h₁, tk₁, rfl⟩ := IC.toInCall.same
  have k : ∀ b o, s.heap.get? b = some o → h₁.get? b = some o := IC.toInCall.keep
  have hn := IC.toInCall.ns
  have hxL : s.heap.objs.size ≠ x := Nat.ne_of_gt (Heap.lt_size hx)
  have X₁ : K.In h₁ := X.keeps k
  have hx₁ := k _ _ hx
  -- self.by = by
  show wpAny _ _ (execs _ _) _ _ _
  refine wpAny_execs_cons (plainObj_wpAny_Assign_Attribute ?_)
  refine ldC (v := v) hn (by first | rfl | with_unfolding_all rfl | kernel_rfl) (ldC (v := .ref x) hn (by first | rfl | with_unfolding_all rfl | kernel_rfl) ?_)
  refine set_plain X₁ (ox := excO C t0) (od := none) ⟨hx₁, rfl, rfl, trivial⟩ T.sa ?_
  refine osaL X₁ hx₁ hcl (show leMro C (.ref C :: bm) from hbm ▸ rfl) rfl T.noN (fun h₃ tk₃ dx k₃ dn dne hx₃ hn₃ => ?_)
  show wpAny _ _ (execs _ _) _ _ _
  have z : s.heap.objs.size < h₁.objs.size := hn.lt
  exact wpAny_execs_nil (hq h₃ tk₃ dx ⟨fun b o hb e => k₃ b o hb (k b o e), hx₃, Nat.le_of_lt (Nat.lt_of_lt_of_le z dn), dne, hn₃⟩)
theorem low_made (T : LowTxt K mg C fI) {v : Value} (X : K.In s.heap) (hlim : s.heap.NoLimit) (hroom : A.depth + 1 < recursionLimit)
    (hq : ∀ h' tk e d, OwnMade s.heap h' e C d v → R (.ok (.ret (.ref e))) { s with heap := h', toks := tk }) :
    codeAny (model prog w) A (.call (.ref C) ⟨[v], []⟩) R s := by
  obtain ⟨nm, q, N, bs, bm, sn, sub, ab, col, dd, k0, k1, k2, k3, k5, hC, hbm⟩ := T.cls
  obtain ⟨hp, g, dr, tk, os⟩ := s
  have k : ∀ b o, hp.get? b = some o → ((hp.push (kdv_tup [v])).push (excO C hp.objs.size)).get? b = some o := fun b o e => Heap.get?_push_of_some _ (Heap.get?_push_of_some _ e)
  have hget : ((hp.push (kdv_tup [v])).push (excO C hp.objs.size)).get? (hp.objs.size + 1) = some (excO C hp.objs.size) := by heap_get
  have hnx : K.lookup (hp.objs.size + 1) = none := by
    cases e : K.lookup (hp.objs.size + 1) with
    | none => rfl
    | some o =>
      have z : hp.get? (hp.objs.size + 1) = some o := X _ _ e
      exact absurd (Nat.lt_of_succ_lt (Heap.lt_size z)) (Nat.lt_irrefl _)
  refine call_own F.excBase_LookupError (fun X => by rw [hbm]) (X _ _ hC) (looks_findIn X T.iC) (fun self => bind_fn X self T.tC) (one_size v) ?_
  refine low_init (s := ⟨(hp.push (kdv_tup [v])).push (excO C hp.objs.size), g, dr, tk, os⟩) T (X.keeps k) (hlim.keeps k) hget hnx ?_ fun h' tk' dx ⟨k', hx, dn, dne, hns⟩ => ?_
  · show A.depth + 1 < recursionLimit
    exact hroom
  · have old : ∀ b o, hp.get? b = some o → h'.get? b = some o := fun b o e => k' b o (Nat.ne_of_lt (Nat.lt_succ_of_lt (Heap.lt_size e))) (k b o e)
    have z : hp.objs.size + 1 + 1 ≤ dx := by
      first
        | (simpa only [Heap.size_push] using dn)
        | exact dn
        | (have q := dn; rw [Heap.size_push, Heap.size_push] at q; exact q)
    exact ⟨rfl, hq h' tk' (hp.objs.size + 1) dx ⟨old, Nat.le_succ _, ⟨_, _, hx, rfl, rfl, rfl, rfl⟩, Nat.le_trans (Nat.le_trans (Nat.le_succ _) (Nat.le_succ _)) z, dne, hns⟩⟩
end
end LowX
end PySem
namespace L2
open PySem PySem.Spec PyProof.Rows
theorem relO_low {v : V} {v' : Value} (r : RelV v v') (f : Str) : RelO (List.lookup f [(("place" : Str), v)]) (if f = "place" then some v' else none) := by
  by_cases hw : f = "place"
  · subst hw
    rw [if_pos rfl]
    have q : List.lookup ("place" : Str) [(("place" : Str), v)] = some v := by simp [List.lookup]
    rw [q]
    exact r
  · rw [if_neg hw]
    have qw : (f == ("place" : Str)) = false := by simpa using hw
    have q2 : List.lookup f [(("place" : Str), v)] = none := by simp [List.lookup, qw]
    rw [q2]
    trivial
section
variable {X : Cx} {C fI : Addr}
/-- Low(e) -/
def tMkLow (C : Addr) (ta : TA) : St → Hp → XK → Prop := fun σ H Q => ta σ H fun vs H1 => ∃ v, vs = [v] ∧ ∀ d, H1 d = none → Q (.ref C) (some d) (upd H1 d (.xd [(("place" : Str), v)]))
theorem pmk_low {a : Expr} {ta : TA} {p pos : Pos} {k : Nat} (T : PySem.LowX.LowTxt X.K X.mg C fI) (hr : Room k X.A) (ha : PA X [a] ta) (hg : Gl X "NoPlace" := by rfl)
    (he : starEach (a :: []) X.env = (false, eval a X.env) :: starEach [] X.env := by rfl) (hpl : (backTo pos (starEach [] X.env)).any (·.1) = false := by rfl) :
    PMk X (.Call (.Name "NoPlace" p) [a] [] pos) (tMkLow C ta) := by
  intro pins s σ H Q I h
  refine wpAny_Call_Name_kw (ld_glob I hg T.gC ?_)
  refine PySem.W.callWith_K (h₀ := X.base) I.ok.mod.kin T.kC (thn (ha.run pos pins s σ H _ I h) fun us s1 hh => ?_) he hpl
  obtain ⟨vs, H1, I1, r1, v, ev, q1⟩ := hh
  subst ev
  refine ⟨I1.kIn, ?_⟩
  cases r1 with
  | cons rv rn =>
    rename_i v' us'
    cases rn
    show wpAny _ _ (call (.ref C) [v']) _ _ _
    have hlim := I1.nolimit
    obtain ⟨hp, g, dr, tk, os⟩ := s1
    refine wpAny_call (PySem.LowX.low_made T I1.kIn hlim (by have := hr.dp; omega) fun h' tk' e d M => ?_)
    show MkP X pins σ Q (.ref e) ⟨h', g, dr, tk', os⟩
    obtain ⟨oe, fv, hoe, hc, hd, hdat, h1⟩ := M.obj
    have hns := M.ns
    obtain ⟨G', g1, g2⟩ := restrict h' fun b => decide (b ≠ e)
    have gk : ∀ b, b ≠ e → G'.get? b = h'.get? b := fun b hb => g1 b (decide_eq_true hb)
    have ge : G'.get? e = none := g2 e (by simp)
    have old : ∀ b o, hp.get? b = some o → G'.get? b = some o := fun b o q => (gk b (Nat.ne_of_lt (Nat.lt_of_lt_of_le (Heap.lt_size q) M.new))).trans (M.keep b o q)
    have ob : ObjOk X.prog X.w (upd H1 d (.xd [(("place" : Str), v)])) G' d (.xd [(("place" : Str), v)]) :=
      ⟨_, hns.at (fun o q => (gk d M.dne).trans q), fun f => relO_low rv f⟩
    have J : Inv X pins σ (upd H1 d (.xd [(("place" : Str), v)])) ⟨G', g, dr, tk', os⟩ := I1.laid (t' := tk') old M.dbig ob
    refine ⟨e, oe, fv, ⟨G', g, dr, tk', os⟩, _, .ref C, some d, rfl, J, fun b o q => ?_, ge, hoe, ⟨hc, hd⟩, hdat, h1, ?_, rfl, I1.bare, raises_own T.exC T.tyC, q1 d (I1.hok.fresh M.dbig)⟩
    · by_cases hb : b = e
      · have q' : G'.get? b = some o := q
        rw [hb, ge] at q'; cases q'
      · exact (gk b hb).symm.trans q
    · rw [upd_ne (Ne.symm M.dne)]
      exact I1.hok.fresh M.new
/-- raise Low(e) -/
def tRaiseLow (C : Addr) (W : WX) (ta : TA) : TS := fun _ σ H => tMkLow C ta σ H fun cls d H' => W cls d σ H'
theorem ps_raiseLow {a : Expr} {ta : TA} {W : WX} {p pos pos2 : Pos} {k : Nat} (hc : X.calm = true) (T : PySem.LowX.LowTxt X.K X.mg C fI) (hr : Room k X.A) (tk : Takes X W) (ha : PA X [a] ta) (hg : Gl X "NoPlace" := by rfl)
    (he : starEach (a :: []) X.env = (false, eval a X.env) :: starEach [] X.env := by rfl) (hpl : (backTo pos (starEach [] X.env)).any (·.1) = false := by rfl) :
    PS X (.Raise (some (.Call (.Name "NoPlace" p) [a] [] pos)) none pos2) (tRaiseLow C W ta) := ps_raise hc tk (pmk_low T hr ha hg he hpl)
/-- low.by, low the exception that the suite holds (at a; its class cls, its dict d) -/
def tByLow (C : Addr) (a : Addr) (cls : Value) (d : Option Addr) (te : TE) : TE := fun σ H Q => te σ H fun x H1 => x = .ref a ∧ cls = .ref C ∧ ∃ (dd : Addr) (v : V), d = some dd ∧ H1 dd = some (.xd [(("place" : Str), v)]) ∧ Q v H1
theorem pe_byLow {a : Addr} {oe : Obj} {cls : Value} {d : Option Addr} {pn : List (Addr × Obj)} {e : Expr} {te : TE} {pos : Pos} (T : PySem.LowX.LowTxt X.K X.mg C fI) (hz : Zc cls d oe) (hf : ∃ vs, oe.data = .fields vs) (he : PE (X.suite a ((a, oe) :: pn)) e te)
    (hb : attributeBase e "place" X.env (eval e X.env) = eval e X.env := by rfl) :
    PE (X.suite a ((a, oe) :: pn)) (.Attribute e "place" pos) (tByLow C a cls d te) := by
  refine ⟨fun pins s σ H Q I h => ?_⟩
  refine attr_of hb (thn (he.run pins s σ H _ I h) fun u s1 hh => ?_)
  obtain ⟨x, H1, I1, rx, ex, ec, dd, v, ed, ea, q⟩ := hh
  subst ex
  obtain rfl : u = Value.ref a := rx
  subst ec
  subst ed
  obtain ⟨ha, _⟩ := I1.pin (a, oe) (List.mem_append_left _ List.mem_cons_self)
  obtain ⟨vs, hd⟩ := hf
  have hx : ObjOk X.prog X.w H1 s1.heap dd (.xd [(("place" : Str), v)]) := I1.hok dd _ ea
  obtain ⟨mA, hns, hr⟩ := hx
  obtain ⟨od, ho, hl⟩ := lookIn_ns hns
  have l : List.lookup ("place" : Str) [(("place" : Str), v)] = some v := by simp [List.lookup]
  obtain ⟨u, hu, ru⟩ := RelO.some_of (v := v) (o := mA "place") (by rw [← l]; exact hr "place")
  have J : PySem.W.InstAt s1.heap a oe C (some od) := ⟨ha, hz.1, by unfold PySem.W.notCls; rw [hd] <;> rfl, by rw [hz.2]; exact ho⟩
  exact HandSPX.exc_get I1.kIn J T.ga T.gg T.exC (PySem.W.findObj_own T.hdC T.noN rfl (by rw [hl, hu])) (handed_of ru) ⟨v, H1, I1.tok _, ru, q⟩
end
end L2

namespace Pyp
open PySem PySem.Spec PyProof.Rows L2
/-- an error of the class at S is what «except S» names -/
theorem exm_self {K : PySem.W.Frag} {S : Addr} (h1 : PySem.W.subIn K (.ref S) (.type "BaseException") = some true) (h2 : PySem.W.isClsIn K S = true) (h3 : PySem.W.typeIn K (.ref S) = some (.type "type")) (h4 : PySem.W.subIn K (.ref S) (.ref S) = some true) :
    PySem.W.exmOne K (.ref S) (.ref S) = some true := by
  have e1 : (PySem.W.subIn K (.ref S) (.type "BaseException") == some true) = true := by rw [h1] <;> rfl
  have e2 : ((PySem.W.clsIn K S).isSome && PySem.W.typeIn K (.ref S) == some (.type "type")) = true := by
    have h2' : (PySem.W.clsIn K S).isSome = true := h2
    rw [h2', h3] <;> rfl
  show (if (PySem.W.subIn K (.ref S) (.type "BaseException") == some true) = true then (if ((PySem.W.clsIn K S).isSome && PySem.W.typeIn K (.ref S) == some (.type "type")) = true then PySem.W.subIn K (.ref S) (.ref S) else none) else none) = some true
  rw [if_pos e1, if_pos e2]
  exact h4
section
variable {X : Cx} {W : WX} {e : Expr} {x : Ex} {pos p p2 p3 p4 pos2 np pos' : Pos} {C fI : Addr}
/-- raise NoPlace(e) -/
def sRaise (c f : Str) (x : Ex) : Sx := fun env ph => (x env ph).bindS env fun v ph1 => match v.dat with
  | some d => .exc c [(f, d)] env ph1
  | none => .bad
theorem st_raise {k : Nat} (hc : X.calm = true) (T : PySem.LowX.LowTxt X.K X.mg C fI) (hr : Room k X.A) (tk : Takes X W) (he : SE X W e x) (hg : Gl X "NoPlace" := by rfl)
    (hst : starEach (e :: []) X.env = (false, eval e X.env) :: starEach [] X.env := by rfl) (hpl : (backTo pos (starEach [] X.env)).any (·.1) = false := by rfl) :
    SS X W (.Raise (some (.Call (.Name "NoPlace" p) [e] [] pos)) none pos2) (sRaise "NoPlace" "place" x) := ⟨fun M0 H0 hd M m σ H env ph s D q =>
  tWS_of (ps_raiseLow hc T hr tk (pa_cons tW_pe pa_nil hst) hg hst hpl) (by
    refine he.bindS s q fun val ph1 v H1 fr s1 rv _ q1 => ?_
    split at q1
    · rename_i d ed
      refine ⟨v, rfl, fun dd hdd => ?_⟩
      have f1 : Frame m H1 (upd H1 dd (.xd [(("place" : Str), v)])) := Frame.new hdd
      exact q1 M σ _ _ _ (s1.keep f1 (s1.rel.new hdd)) ⟨C, T.gC, rfl, dd, v, rfl, upd_same, Rep.keep (f1.keep s1.rel) _ _ (rv.dat ed)⟩
    · exact q1.elim)⟩
/-- try: b; except NoPlace as n: return [tag, n.place] -/
def tryF (c f : Str) (tag : List Nat) (c' : Str) (fs : List (Str × D)) (ph2 : PH) : Out := if c' = c then match fs with
    | [(f', d)] => if f' = f then .ret (.own (.lst [.str tag, d])) ph2 else .bad
    | _ => .bad else .bad
def sTryF (c f : Str) (tag : List Nat) (b : Sx) : Sx := fun env ph => match b env ph with
  | .exc c' fs _ ph2 => tryF c f tag c' fs ph2
  | o => o
theorem st_tryF {n : Str} {i : Nat} {body : List Stmt} {b : Sx} {tag : Str} {tg : List Nat} {j : Nat} (hs : X.stack = X.env :: X.outer) (hf : X.env.frame = some X.env.locals) (hN : X.N.Nodup) (hi : X.N[i]? = some n) (hln : X.env.kindOf n = some .local) (T : PySem.LowX.LowTxt X.K X.mg C fI)
    (tk : Takes X W) (htag : tag = ⟨tg.toArray⟩) (hv : Vis X.env.scope n) (hd : (n == ("__debug__" : Str)) = false) (hcd : (n == ("__classdict__" : Str)) = false) (hg : Gl X "NoPlace" := by rfl)
    (hb : ∀ (W : WX) (pn : List (Addr × Obj)) (xe : Value → Shared → Prop), Takes (X.tr pn xe) W → PassesOwn (model X.prog X.w) X.A X.env xe → SB (X.tr pn xe) W body b)
    (ha : attributeBase (.Name n p2) "place" X.env (eval (.Name n p2) X.env) = eval (.Name n p2) X.env := by rfl)
    (hst : starEach [.Constant (.str tag) j p, .Attribute (.Name n p2) "place" p3] X.env = (false, eval (.Constant (.str tag) j p) X.env) :: starEach [.Attribute (.Name n p2) "place" p3] X.env := by rfl)
    (hst2 : starEach [.Attribute (.Name n p2) "place" p3] X.env = (false, eval (.Attribute (.Name n p2) "place" p3) X.env) :: starEach [] X.env := by rfl) :
    SS X W (.Try body [.ExceptHandler (some (.Name "NoPlace" np)) (some n) [.Return (some (.List [.Constant (.str tag) j p, .Attribute (.Name n p2) "place" p3] p4)) pos2] pos'] [] [] pos) (sTryF "NoPlace" "place" tg b) := ⟨fun M0 H0 hd' M m σ H env ph s D q => by
  refine tWS_of (ps_try_as (c := .ref C) (i := i) (tb := fun W' => fun D σ H => ∀ pn xe, Takes (X.tr pn xe) W' → PassesOwn (model X.prog X.w) X.A X.env xe → tWB (X.tr pn xe) body D σ H)
    (ts := fun a cls d => fun D σ H => ∀ oe pn, Zc cls d oe → (∃ vs, oe.data = .fields vs) → tWB (X.suite a ((a, oe) :: pn)) _ D σ H) hs hf hN hi hln ⟨hg, by decide, .inl T.gC⟩ tk
    (fun W' pn xe tk' po => ⟨fun pins st σ H D I h => h pn xe tk' po pins st I⟩) (fun a oe cls d pn hz hf' => ⟨fun pins st σ H D I h => h oe pn hz hf' pins st I⟩)) ?_
  intro pn xe tk' po
  refine (hb _ pn xe tk' po).run M0 H0 hd' M m σ H env ph s D ?_
  unfold sTryF at q
  cases hbo : b env ph with
  | exc c' fs env2 ph2 =>
    rw [hbo] at q
    have q2 : PostS X W M0 H0 hd' m D (tryF "NoPlace" "place" tg c' fs ph2) := q
    clear q
    unfold tryF at q2
    split at q2
    · rename_i ec
      split at q2
      · rename_i f d
        split at q2
        case isFalse => exact q2.elim
        rename_i ef
        subst ef
        refine fun M' σ' H' cls dd s' ex => ?_
        obtain ⟨C', e1, e2, dd', v, e3, e4, rv⟩ := ex
        have eC : C' = C := by
          have h1 : X.mg c' = some (.ref C') := e1
          rw [ec, T.gC] at h1
          cases h1; rfl
        subst eC e2 e3
        refine ⟨true, T.te, fun _ a hna => ?_, fun z => nomatch z⟩
        intro oe pn' hz hf' pins st I
        have hlen : i < σ'.length := by
          have h1 := I.len
          rw [List.length_set] at h1
          rw [h1]
          exact (List.getElem?_eq_some_iff.mp hi).1
        refine (pss_one (ps_ret (pe_lst (pa_cons pe_str (pa_cons (pe_byLow T hz hf' (pe_var (X := X.suite a ((a, oe) :: pn')) hi hv hd hcd) ha) pa_nil hst2) hst)))).run pins st _ _ _ I ?_
        refine ⟨_, List.getElem?_set_self hlen, rfl, rfl, dd', v, rfl, e4, show 2 ≤ sizeLine by decide, fun pp hpp => ?_⟩
        have r0 : Rel (kx X) M0 m H' ph2 := s'.rel.anti s'.sub s'.mem
        have rs : Reps (kx X) M0 H' [.str tg, d] [.str tag, v] := .cons (by rw [Rep, htag]) (.cons (Rep.anti s'.sub _ _ rv) Reps.nil)
        exact q2 (.ref pp) _ (s'.fr.trans (Frame.new hpp)) (r0.new hpp) (own_new r0 hpp (s'.fr.back r0 hpp) rs) (own_ro r0 hpp rs)
      · exact q2.elim
    · exact q2.elim
  | nx env2 ph2 => rw [hbo] at q; exact q
  | ret v ph2 => rw [hbo] at q; exact q
  | bk env2 ph2 => rw [hbo] at q; exact q
  | ct env2 ph2 => rw [hbo] at q; exact q
  | bad => rw [hbo] at q; exact q.elim⟩
end
end Pyp

/-! Soft forms; two or three names at once. -/
namespace Pyp
open PySem PySem.Spec PyProof.Rows L2

theorem Room.u65 {k : Nat} {A : Around} (r : Room k A) : A.units + 65 < cLine := by have := r.un; omega
section
variable {X : Cx} {W : WX} {st : Stmt} {rest : List Stmt} {x y : Sx} {e a b c : Expr} {xe : Ex} {pos : Pos}
theorem b_never : SB X W rest sBad := ⟨fun M0 H0 hd M m σ H env ph s D q => q.elim⟩
/-- a local list, if the name holds one, becomes data -/
def sFz (i : Nat) (s : Sx) : Sx := fun env ph => match env[i]? with
  | some (some (.own x)) => s (env.set i (some (.d x))) ph
  | _ => s env ph
theorem st_fz (i : Nat) (h : SB X W rest x) : SB X W rest (sFz i x) := ⟨fun M0 H0 hd M m σ H env ph s D q => by
  unfold sFz at q
  split at q
  · rename_i y e
    obtain ⟨M', s'⟩ := s.frz e
    exact h.run M0 H0 hd M' m σ H _ ph s' D q
  · exact h.run M0 H0 hd M m σ H env ph s D q⟩
/-- name = e: a list just made stays the name's own -/
def varEnd (i : Nat) (env : Env) (v : Val) (ph1 : PH) : Out := match v with
  | .own d => .nx (env.set i (some (.own d))) ph1
  | .d d => .nx (env.set i (some (.d d))) ph1
  | _ => .bad
def sVar (i : Nat) (x : Ex) : Sx := fun env ph => (x env ph).bindS env (varEnd i env)
theorem var_core {i : Nat} {M0 M : Addr → Prop} {H0 H H1 : Hp} {hd m σ env ph} {ph1 : PH} {val : Val} {v : V} {D : Ends} (s : StR (kx X) M0 H0 hd M m σ H env ph) (fr : Frame m H H1) (s1 : StR (kx X) M0 H0 hd M m σ H1 env ph1) (rv : RV (kx X) M m H H1 v val) (ro : RO (kx X) M m H1 ph1 v val)
    (q1 : PostS X W M0 H0 hd m D (varEnd i env val ph1)) : gName i v σ H1 D.nx := by
  cases val with
  | own d =>
    obtain ⟨a, rfl, h1, h2, h3⟩ := rv
    obtain ⟨ra, ca⟩ := ro d rfl a rfl
    exact q1 _ _ H1 (s.setOwn fr ra ca h1 h2)
  | d d => exact q1 M _ H1 (s1.setD rv)
  | _ => exact q1.elim
variable {i : Nat} {n : Str} {pos' : Pos}
theorem st_var (hN : X.N.Nodup) (hi : X.N[i]? = some n) (hx : Loc X.env.scope n) (h : SE X W e xe) (hs : swapsWith e (some (.Name n pos')) pos.line X.env = pure false := by rfl) (hf : X.fn n = true ∨ X.env.scope.names.lookup n = some .local := by first | exact .inl rfl | exact .inr rfl | assumption) :
    SS X W (.Assign [.Name n pos'] e pos) (sVar i xe) := ⟨fun M0 H0 hd M m σ H env ph s D q => tWS_of (ps_set hN hi hx tW_pe hs hf) (h.bindS s q fun val ph1 v H1 fr s1 rv ro q1 => var_core s fr s1 rv ro q1)⟩
/-- a, b = x, y; a, b, c = x, y, z: data -/
def sPar (is : List Nat) (xs : Ax) : Sx := fun env ph => (xs env ph).bindS env fun vs ph1 => match is, dats vs with
  | [i, j], some [d, e] => .nx ((env.set i (some (.d d))).set j (some (.d e))) ph1
  | [i, j, k], some [d, e, f] => .nx (((env.set i (some (.d d))).set j (some (.d e))).set k (some (.d f))) ph1
  | _, _ => .bad
variable {j l : Nat} {u v w : Str} {px py pz pt : Pos} {kt k2 : Nat} {pt2 : Pos} {xs : Ax}
theorem st_par2 (hc : X.calm = true) (hN : X.N.Nodup) (hi : X.N[i]? = some u) (hj : X.N[j]? = some v) (hij : i ≠ j) (hx : X.env.scope.names.lookup u = some .local) (hy : X.env.scope.names.lookup v = some .local) (h : SA X W [a, b] xs)
    (hw : swappedStores [.Tuple [.Name u px, .Name v py] kt pt] (.Tuple [a, b] k2 pt2) X.env = pure (some [u, v])) (hs : swapsWithSole [.Tuple [.Name u px, .Name v py] kt pt] (.Tuple [a, b] k2 pt2) pos.line X.env = pure false := by rfl) :
    SS X W (.Assign [.Tuple [.Name u px, .Name v py] kt pt] (.Tuple [a, b] k2 pt2) pos) (sPar [i, j] xs) := ⟨fun M0 H0 hd M m σ H env ph s D q => tWS_of (ps_par hc hN hi hj hij hx hy tWA_pa hw hs) (by
  refine h.bindS s q fun vals ph1 vs H1 fr s1 rv q1 => ?_
  split at q1
  · rename_i i' j' d e h1 ed
    cases h1
    have r := rv.dats ed
    rw [Reps] at r
    obtain ⟨x1, xs1, rfl, r1, r⟩ := r
    rw [Reps] at r
    obtain ⟨x2, xs2, rfl, r2, r⟩ := r
    rw [Reps] at r
    subst r
    exact ⟨x1, x2, rfl, q1 M _ H1 ((s1.setD r1).setD r2)⟩
  · rename_i h1 ed
    cases h1
  · exact q1.elim)⟩
theorem st_par3 (hc : X.calm = true) (hN : X.N.Nodup) (hi : X.N[i]? = some u) (hj : X.N[j]? = some v) (hl : X.N[l]? = some w) (hij : i ≠ j) (hil : i ≠ l) (hjl : j ≠ l) (hx : X.env.scope.names.lookup u = some .local) (hy : X.env.scope.names.lookup v = some .local) (hz : X.env.scope.names.lookup w = some .local) (h : SA X W [a, b, c] xs)
    (hw : swappedStores [.Tuple [.Name u px, .Name v py, .Name w pz] kt pt] (.Tuple [a, b, c] k2 pt2) X.env = pure (some [u, v, w])) (hs : swapsWithSole [.Tuple [.Name u px, .Name v py, .Name w pz] kt pt] (.Tuple [a, b, c] k2 pt2) pos.line X.env = pure false := by rfl) :
    SS X W (.Assign [.Tuple [.Name u px, .Name v py, .Name w pz] kt pt] (.Tuple [a, b, c] k2 pt2) pos) (sPar [i, j, l] xs) := ⟨fun M0 H0 hd M m σ H env ph s D q => tWS_of (ps_par3 hc hN hi hj hl hij hil hjl hx hy hz tWA_pa hw hs) (by
  refine h.bindS s q fun vals ph1 vs H1 fr s1 rv q1 => ?_
  split at q1
  · rename_i h1 ed
    cases h1
  · rename_i i' j' k' d e f h1 ed
    cases h1
    have r := rv.dats ed
    rw [Reps] at r
    obtain ⟨x1, xs1, rfl, r1, r⟩ := r
    rw [Reps] at r
    obtain ⟨x2, xs2, rfl, r2, r⟩ := r
    rw [Reps] at r
    obtain ⟨x3, xs3, rfl, r3, r⟩ := r
    rw [Reps] at r
    subst r
    exact ⟨x1, x2, x3, rfl, q1 M _ H1 (((s1.setD r1).setD r2).setD r3)⟩
  · exact q1.elim)⟩
end

/-! ### a or b, a of any sort -/
def truD : D → Option Bool
  | .non => some false
  | .bl b => some b
  | .int i => some (i != 0)
  | .tup ds => some (!ds.isEmpty)
  | .lst ds => some (!ds.isEmpty)
  | _ => none
theorem isEmpty_reps {K M H} {ds : List D} {xs : List V} (r : Reps K M H ds xs) : xs.isEmpty = ds.isEmpty := by
  have := r.length
  cases ds <;> cases xs <;> simp_all
theorem truD_v {K M H d v b} (h : CR K M H d v) (e : truD d = some b) : TruV K v H b := by
  cases d with
  | non => rw [cr_non h]; cases e; rfl
  | bl b => rw [cr_bl h]; cases e; rfl
  | int i => rw [cr_int h]; cases e; rfl
  | tup ds =>
    obtain ⟨a, xs, rfl, t, r⟩ := cr_tup h
    cases e
    exact .inr (.inl ⟨xs, t.sq, by rw [isEmpty_reps r]⟩)
  | lst ds =>
    obtain ⟨a, xs, rfl, t, r⟩ := cr_lst h
    cases e
    exact .inl ⟨xs, SqL.of t, by rw [isEmpty_reps r]⟩
  | _ => cases e
section
variable {X : Cx} {W : WX} {a b : Expr} {xa xb : Ex} {ta tb : TE} {rest : List Expr} {pos : Pos}
theorem pe_orT (ha : PE X a ta) (hb : PE X (.BoolOp .Or (b :: rest) pos) tb) : PE X (.BoolOp .Or (a :: b :: rest) pos) (fun σ H Q => ta σ H fun x H1 => ∃ k, TruV X.K x H1 k ∧ if k = true then Q x H1 else tb σ H1 Q) := by
  refine ⟨fun pins s σ H Q I h => ?_⟩
  refine BoolOp_or (thn (ha.run pins s σ H _ I h) fun v s1 hh => ?_)
  obtain ⟨x, H1, I1, r1, k, tv, q1⟩ := hh
  refine wpAny_mono (tru_ok pins s1 σ H1 x v (fun k' H2 => k' = k ∧ H2 = H1) I1 r1 ⟨k, tv, rfl, rfl⟩) (fun c s2 hc => ?_) fun _ _ z => z
  obtain ⟨H2, I2, e1, e2⟩ := hc
  subst e1 e2
  cases c with
  | false => exact hb.run pins s2 σ H2 Q I2 q1
  | true => exact ⟨x, H2, I2, r1, q1⟩
def orEnd (v : Val) (y : Ex) (env : Env) (ph1 : PH) : Res Val := match (v.cont ph1).bind truD with
  | some true => .ok v ph1
  | some false => y env ph1
  | none => .bad
def eOrT (x y : Ex) : Ex := fun env ph => (x env ph).bind fun v ph1 => orEnd v y env ph1
theorem s_orT (ha : SE X W a xa) (hb : SE X W (.BoolOp .Or (b :: rest) pos) xb) : SE X W (.BoolOp .Or (a :: b :: rest) pos) (eOrT xa xb) := ⟨fun M m σ H env ph r er Q q => tW_of (pe_orT tW_pe tW_pe) (by
  have q' : Post X W M m σ H (GE X M m H Q) ((xa env ph).bind fun v ph1 => orEnd v xb env ph1) := q
  refine ha.run M m σ H env ph r er _ ?_
  cases hx : xa env ph with
  | bad => rw [hx] at q'; exact q'
  | exc c fs ph1 => rw [hx] at q'; exact q'
  | ok v ph1 =>
    rw [hx] at q'
    intro w H1 fr r1 rv ro
    have q2 : Post X W M m σ H (GE X M m H Q) (orEnd v xb env ph1) := q'
    unfold orEnd at q2
    cases hc : v.cont ph1 with
    | none => rw [hc] at q2; exact q2.elim
    | some d =>
      rw [hc, Option.bind_some] at q2
      cases ht : truD d with
      | none => rw [ht] at q2; exact q2.elim
      | some k =>
        rw [ht] at q2
        refine ⟨k, truD_v (rv.cr r1 hc) ht, ?_⟩
        cases k with
        | true => rw [if_pos rfl]; exact q2 w H1 fr r1 rv ro
        | false =>
          rw [if_neg Bool.false_ne_true]
          exact hb.run M m σ H1 env ph1 r1 (er.keep r fr) Q (Post.mono (fun _ _ g => GE.at fr r1 g) (Post.step fr q2)))⟩
end

/-! ### a def of the top, as it stands behind it -/
structure DefAt (K : PySem.W.Frag) (mg : Str → Option Value) (name : Str) (st : Stmt) (ps : List Str) (kws : List (List Str × List Nat) := []) : Prop where
  ex : ∃ (f : Addr) (fd : FuncData), Fun K name name st f fd ∧ mg name = some (.ref f) ∧ Binds K fd ps [] ∧ ∀ q ∈ kws, KW fd ps q.1 q.2
theorem DefAt.fn {P : Program} {w : World} {K : PySem.W.Frag} {mg : Str → Option Value} {base : Heap} {x : Str} {st : Stmt} {N ps : List Str} {k : Nat} {body : Sx} {kws : List (List Str × List Nat)} (F : DefAt K mg x st ps kws) (S : FnScope N ps (defScope st))
    (hbody : ∀ (f : Addr) (cdv : Value) (A : Around) (outer : List PySem.Env) (s : Shared) (H : Hp) (E : XK), Room k (A.deeper (PyProof.Rows.envOfC x (defScope st) s.heap.objs.size f cdv)) →
      SB (cxOf (L2.CX P w) P w K mg base N x (defScope st) f cdv A outer s H E) (fun cls d _ H => E cls d H) (defBody st) body) : FnAt P w K mg base (k + 1) x ps.length (runF N.length body) kws := by
  obtain ⟨f, fd, F1, hm, hb, hkw⟩ := F.ex
  exact fn_at F1 S hm hb hkw (hbody f)
/-! ### the law -/
def spL (K : PySem.W.Frag) (f : Fn) : Sp := fun vs H Q E => ∃ (a : Addr) (ns : List Int), vs = [V.ref a] ∧ SqL K H a (ns.map V.int) ∧ (∃ ph, f [.d (.fz ns)] [] = .ok (.d (.bl true)) ph) ∧ ∀ H', Q (.bl true) H'
theorem spL_of {K : PySem.W.Frag} {f : Fn} {H : Hp} {a : Addr} {ns : List Int} (hp : ∀ ns : List Int, ns.length ≤ 63 → ∃ ph, f [.d (.fz ns)] [] = .ok (.d (.bl true)) ph) (hl : ns.length ≤ 63) (hS : SqL K H a (ns.map V.int)) : spL K f [.ref a] H (fun v _ => v = .bl true) fun _ _ _ => False :=
  ⟨a, ns, rfl, hS, hp ns hl, fun _ => rfl⟩
theorem law_at {P : Program} {w : World} {K : PySem.W.Frag} {mg : Str → Option Value} {base : Heap} {x : Str} {st : Stmt} {f : Addr} {fd : FuncData} {N : List Str} {y : Str} {k : Nat} {body : Sx} (F : Fun K x x st f fd) (S : FnScope N [y] (defScope st))
    (hbody : ∀ (f : Addr) (cdv : Value) (A : Around) (outer : List PySem.Env) (s : Shared) (H : Hp) (E : XK), Room k (A.deeper (PyProof.Rows.envOfC x (defScope st) s.heap.objs.size f cdv)) →
      SB (cxOf (L2.CX P w) P w K mg base N x (defScope st) f cdv A outer s H E) (fun cls d _ H => E cls d H) (defBody st) body) : FnOk P w K mg base (L2.CX P w) (k + 1) f fd [y] (spL K (runF N.length body)) := by
  refine F.okX S (fun vs H Q E h => by obtain ⟨a, ns, rfl, _⟩ := h; rfl) (fun cdv A outer s H vs Q E hr h => ?_)
  obtain ⟨a, ns, rfl, hS, ⟨ph, hp⟩, q⟩ := h
  have r : Rel ⟨K, w⟩ (fun _ => False) [] H [] := ⟨rfl, .nil, fun _ z => (by cases z), fun _ z => z.elim, fun n a d e => by simp at e⟩
  have ia : ∀ y ∈ [Val.d (.fz ns)], IsArg y := fun y hy => by
    have : y = .d (.fz ns) := by simpa using hy
    subst this; exact trivial
  have rv : RVs ⟨K, w⟩ (fun _ => False) [] H H [V.ref a] [Val.d (.fz ns)] := ⟨.ref a, [], rfl, (by
    show Rep ⟨K, w⟩ _ H (.fz ns) (.ref a)
    rw [Rep]
    exact ⟨a, rfl, hS.imp (fun h => ⟨fun z => z, h⟩) id⟩), rfl⟩
  obtain ⟨er, no⟩ := start_rel (N := N) rv ia
  refine ⟨_, tWB_ps, (hbody f cdv A outer s H E hr).run (fun _ => False) H (fun _ _ => False) (fun _ => False) [] _ H _ [] ⟨r, er, by unfold L2.start; simp, fun _ z => z, r.sub, Frame.refl, fun i x a e => absurd e (no i x), fun i j x y a _ e => absurd e (no i x), fun _ _ z => z.elim⟩ _ ?_⟩
  unfold runF at hp
  cases hb : body ([Val.d (.fz ns)].map some ++ List.replicate (N.length - [Val.d (.fz ns)].length) none) [] with
  | ret v ph' =>
    rw [hb] at hp
    cases hp
    intro w H' _ _ rv' _
    rw [RV, Rep] at rv'
    subst rv'
    exact q H'
  | nx env' ph' => rw [hb] at hp; cases hp
  | exc c fs env' ph' => rw [hb] at hp; cases hp
  | bk env' ph' => rw [hb] at hp; cases hp
  | ct env' ph' => rw [hb] at hp; cases hp
  | bad => rw [hb] at hp; cases hp
theorem cx_false {P : Program} (w : World) (H : Hp) (s : Shared) (e : Value) (s' : Shared) (h : L2.CX P w [] H s (fun _ _ _ => False) e s') : False := by
  obtain ⟨a, B, H', cls, d, _, _, _, _, _, _, _, z⟩ := h
  exact z
end Pyp

/-! Two names at once, either of them the holder of a list just made. -/
namespace Pyp
open PySem PySem.Spec PyProof.Rows L2
section
variable {K : Kx} {M0 M : Addr → Prop} {H0 H : Hp} {hd : V → D → Prop} {m : List Addr} {σ : L2.St} {env : Env} {ph : PH} {i : Nat} {d : D} {v : V} {a : Addr}
/-- one address more is kept from sharing -/
theorem StR.more {phs : PH} {Hs : Hp} (s : StR K M0 H0 hd M m σ Hs env phs) (f : Frame m Hs H) (r : Rel K (MAdd M a) m H ph) (c : Cont K (MAdd M a) H a d) (ha : Hs a = none) (nm : ¬ M a) : StR K M0 H0 hd (MAdd M a) m σ H env ph := by
  have q := s.setOwn (i := env.length) (d := d) f r c ha nm
  rw [List.set_eq_of_length_le (by rw [s.len]; exact Nat.le_refl _), List.set_eq_of_length_le (Nat.le_refl _)] at q
  exact q
end
section
variable {X : Cx} {W : WX} {a b : Expr} {xa xb : Ex} {pos : Pos} {i j : Nat} {u v : Str} {px py pt : Pos} {kt k2 : Nat} {pt2 : Pos}
def parEnd (i j : Nat) (env : Env) (v w : Val) (ph : PH) : Out := (varEnd i env v ph).bind fun env1 ph1 => varEnd j env1 w ph1
def sParV (i j : Nat) (x y : Ex) : Sx := fun env ph => (x env ph).bindS env fun v ph1 => (y env ph1).bindS env fun w ph2 => parEnd i j env v w ph2
/-- both ends of a row of two -/
theorem par_core (hij : i ≠ j) {M0 H0 hd M m σ H env ph} (ha : SE X W a xa) (hb : SE X W b xb) (s : StR (kx X) M0 H0 hd M m σ H env ph) {D : Ends} (q : PostS X W M0 H0 hd m D (sParV i j xa xb env ph)) :
    tW X a σ H fun x H1 => tW X b σ H1 fun y H2 => ∃ v w, [x, y] = [v, w] ∧ D.nx ((σ.set i (some v)).set j (some w)) H2 := by
  refine ha.bindS s q fun val ph1 v H1 fr s1 rv ro q1 => ?_
  cases val with
  | own d =>
    obtain ⟨a1, rfl, n1, m1, c1⟩ := rv
    obtain ⟨ra, ca⟩ := ro d rfl a1 rfl
    have s1' := s.more fr ra ca n1 m1
    have s3 := s.setOwn (i := i) fr ra ca n1 m1
    refine hb.bindS s1' q1 fun val2 ph2 v2 H2 fr2 s2 rv2 ro2 q2 => ?_
    cases val2 with
    | own d2 =>
      obtain ⟨a2, rfl, n2, m2, c2⟩ := rv2
      obtain ⟨r2, c2'⟩ := ro2 d2 rfl a2 rfl
      exact ⟨_, _, rfl, q2 _ _ H2 (s3.setOwn (i := j) fr2 r2 c2' n2 m2)⟩
    | d d2 => exact ⟨_, _, rfl, q2 _ _ H2 ((s3.keep fr2 s2.rel).setD rv2)⟩
    | _ => exact q2.elim
  | d d =>
    have s3 := s1.setD (i := i) rv
    refine hb.bindS s1 q1 fun val2 ph2 v2 H2 fr2 s2 rv2 ro2 q2 => ?_
    cases val2 with
    | own d2 =>
      obtain ⟨a2, rfl, n2, m2, c2⟩ := rv2
      obtain ⟨r2, c2'⟩ := ro2 d2 rfl a2 rfl
      exact ⟨_, _, rfl, q2 _ _ H2 (s3.setOwn (i := j) fr2 r2 c2' n2 m2)⟩
    | d d2 => exact ⟨_, _, rfl, q2 _ _ H2 ((s3.keep fr2 s2.rel).setD rv2)⟩
    | _ => exact q2.elim
  | bor d =>
    refine hb.bindS s1 q1 fun val2 ph2 v2 H2 fr2 s2 rv2 ro2 q2 => ?_
    exact q2.elim
  | ref k =>
    refine hb.bindS s1 q1 fun val2 ph2 v2 H2 fr2 s2 rv2 ro2 q2 => ?_
    exact q2.elim
theorem st_parV (hc : X.calm = true) (hN : X.N.Nodup) (hi : X.N[i]? = some u) (hj : X.N[j]? = some v) (hij : i ≠ j) (hx : X.env.scope.names.lookup u = some .local) (hy : X.env.scope.names.lookup v = some .local) (ha : SE X W a xa) (hb : SE X W b xb)
    (hw : swappedStores [.Tuple [.Name u px, .Name v py] kt pt] (.Tuple [a, b] k2 pt2) X.env = pure (some [u, v])) (hs : swapsWithSole [.Tuple [.Name u px, .Name v py] kt pt] (.Tuple [a, b] k2 pt2) pos.line X.env = pure false := by rfl)
    (h1 : starEach [a, b] X.env = (false, eval a X.env) :: starEach [b] X.env := by rfl) (h2 : starEach [b] X.env = (false, eval b X.env) :: starEach [] X.env := by rfl) :
    SS X W (.Assign [.Tuple [.Name u px, .Name v py] kt pt] (.Tuple [a, b] k2 pt2) pos) (sParV i j xa xb) := ⟨fun M0 H0 hd M m σ H env ph s D q => tWS_of (ps_par hc hN hi hj hij hx hy (pa_cons tW_pe (pa_cons tW_pe pa_nil h2) h1) hw hs) (by
  refine fun pins st I => ?_
  exact (tW_pe (X := X) (e := a)).run pins st σ H _ I (by
    have := par_core hij ha hb s q
    exact this))⟩
end
end Pyp

/-! x.append(y.pop(i)), x and y own lists. -/
namespace Pyp
open PySem PySem.Spec PyProof.Rows L2
section
variable {X : Cx} {W : WX} {e : Expr} {es : List Expr} {xs : Ax}
def appPop (i j : Nat) (ds es : List D) (z : Int) (env : Env) (ph : PH) : Out := match ixN es.length z with
  | some k => match es[k]? with
    | some d => if es.length ≤ lim ∧ ds.length < lim then .nx ((env.set j (some (.own (.lst (es.eraseIdx k))))).set i (some (.own (.lst (ds ++ [d]))))) ph else .bad
    | none => .bad
  | none => .bad
def sAppPop (i j : Nat) (xs : Ax) : Sx := fun env ph => match env[i]?, env[j]? with
  | some (some (.own (.lst ds))), some (some (.own (.lst es))) => (xs env ph).bindS env fun vs ph1 => match dats vs with
    | some [.int z] => appPop i j ds es z env ph1
    | _ => .bad
  | _, _ => .bad
theorem appPop_core (i j : Nat) (hij : i ≠ j) {n u : Str} (h : SA X W es xs) {M0 H0 hd M m σ H env ph} (s : StR (kx X) M0 H0 hd M m σ H env ph) {D : Ends} (q : PostS X W M0 H0 hd m D (sAppPop i j xs env ph)) :
    ∃ w, σ[i]? = some (some w) ∧ tyV X.K "list" w H ∧ ∃ w2, σ[j]? = some (some w2) ∧ tyV X.K "list" w2 H ∧ tWA X es σ H fun vs H2 => rPopAt w2 vs H2 fun y H3 => rWM X "list.append" w [y] H3 fun _ H4 => D.nx σ H4 := by
  unfold sAppPop at q
  split at q
  · rename_i ds es0 ei ej
    obtain ⟨v, e1, a, rfl, ma, am, xsv, hH, rs⟩ := s.er.2 i _ ei
    obtain ⟨v2, e2, b, rfl, mb, bm, ysv, hB, rs2⟩ := s.er.2 j _ ej
    refine ⟨_, e1, .inl ⟨rfl, xsv, SqL.of hH⟩, _, e2, .inl ⟨rfl, ysv, SqL.of hB⟩, h.bindS s q fun vals ph1 vs H1 fr s1 rv q1 => ?_⟩
    split at q1
    · rename_i z ed
      have re := rv.dats ed
      rw [Reps] at re
      obtain ⟨y, ys, rfl, r1, r2⟩ := re
      rw [Reps] at r2
      subst r2
      rw [Rep] at r1
      subst r1
      unfold appPop at q1
      split at q1
      · rename_i k hk
        split at q1
        · rename_i d hd'
          split at q1
          · rename_i hl
            obtain ⟨h1, h2, h3, h4⟩ := ixN_seq hk
            have hB1 := fr b _ hB bm
            have rs2' := Reps.keep (fr.keep s.rel) _ _ rs2
            have hl1 : es0.length ≤ 1000000 := hl.1
            obtain ⟨y, ey, ry⟩ := rs2'.get hd'
            refine ⟨b, ysv, z, k, y, rfl, rfl, hB1, by omega, by omega, by rw [rs2'.length]; exact h1, ey, ?_⟩
            have cc : Cont (kx X) M (upd H1 b (.lst (ysv.eraseIdx k))) b (.lst (es0.eraseIdx k)) := ⟨ysv.eraseIdx k, upd_same, Reps.keep (upd_keep mb) _ _ (rs2'.erase k)⟩
            have s2 := s1.mutOwn (y := .lst (es0.eraseIdx k)) ej e2 (fun c o hc z => by rw [upd_ne hc]; exact z) cc
            have ei' : (env.set j (some (Val.own (.lst (es0.eraseIdx k)))))[i]? = some (some (.own (.lst ds))) := by
              rw [List.getElem?_set_ne (Ne.symm hij)]; exact ei
            intro pins st σ' v' us I rx rxs
            obtain ⟨v3, e3, a3, ea, ma3, am3, xs3, hH3, rs3⟩ := s2.er.2 i _ ei'
            rw [e1] at e3
            cases e3
            cases ea
            have hl2 : ds.length < 1000000 := hl.2
            refine mt_append pins st σ' _ _ _ v' us _ I rx rxs ⟨a, xs3, y, rfl, rfl, hH3, by rw [rs3.length]; exact lim_lt (Nat.le_of_lt hl2), ?_⟩
            exact q1 _ σ _ (s2.mutOwn ei' e1 (fun c o hc z => by rw [upd_ne hc]; exact z) ⟨xs3 ++ [y], upd_same, Reps.keep (upd_keep ma3) _ _ (rs3.append (.cons (Rep.keep (upd_keep mb) _ _ ry) Reps.nil))⟩)
          · exact q1.elim
        · exact q1.elim
      · exact q1.elim
    · exact q1.elim
  · exact q.elim
theorem st_appPop {n u nm1 nm2 : Str} {p1 p2 ap1 ap2 cp1 cp2 pos : Pos} {ie : Expr} (slot : Slot "list" nm1 "list.append") (slot2 : Slot "list" nm2 "list.pop") (hty : typeOf (.builtin "list.append") = pure (.type "method_descriptor")) (hty2 : typeOf (.builtin "list.pop") = pure (.type "method_descriptor"))
    (i j : Nat) (hij : i ≠ j) (h : SA X W [ie] xs) (hN : X.N[i]? = some n := by rfl) (hN2 : X.N[j]? = some u := by rfl)
    (hv : Vis X.env.scope n := by first | exact Or.inl rfl | exact Or.inr (Or.inl rfl) | exact Or.inr (Or.inr rfl)) (hv2 : Vis X.env.scope u := by first | exact Or.inl rfl | exact Or.inr (Or.inl rfl) | exact Or.inr (Or.inr rfl))
    (hd : (n == ("__debug__" : Str)) = false := by decide) (hcd : (n == ("__classdict__" : Str)) = false := by decide) (hd2 : (u == ("__debug__" : Str)) = false := by decide) (hcd2 : (u == ("__classdict__" : Str)) = false := by decide)
    (hs : swapsWith (.Call (.Attribute (.Name n p1) nm1 ap1) [.Call (.Attribute (.Name u p2) nm2 ap2) [ie] [] cp2] [] cp1) none pos.line X.env = pure false := by rfl)
    (hb1 : attributeBase (.Name n p1) nm1 X.env (eval (.Name n p1) X.env) = eval (.Name n p1) X.env := by rfl) (hb2 : attributeBase (.Name u p2) nm2 X.env (eval (.Name u p2) X.env) = eval (.Name u p2) X.env := by rfl)
    (hl1 : (ap1.endLine == cp1.line) = true := by rfl) (hl2 : (ap2.endLine == cp2.line) = true := by rfl)
    (hf1 : ((backTo cp1 (starEach [.Call (.Attribute (.Name u p2) nm2 ap2) [ie] [] cp2] X.env)).all (fun x => !x.1) && (backToKw cp1 (keywordEach [] X.env)).all (fun x => x.1.isSome) && decide (1 + ([] : List Keyword).length + (if ([] : List Keyword).isEmpty then 0 else 1) < 30)) = true := by rfl)
    (hf2 : ((backTo cp2 (starEach [ie] X.env)).all (fun x => !x.1) && (backToKw cp2 (keywordEach [] X.env)).all (fun x => x.1.isSome) && decide (1 + ([] : List Keyword).length + (if ([] : List Keyword).isEmpty then 0 else 1) < 30)) = true := by rfl)
    (hst1 : starEach [.Call (.Attribute (.Name u p2) nm2 ap2) [ie] [] cp2] X.env = (false, eval (.Call (.Attribute (.Name u p2) nm2 ap2) [ie] [] cp2) X.env) :: starEach [] X.env := by rfl) (hst2 : starEach [ie] X.env = (false, eval ie X.env) :: starEach [] X.env := by rfl)
    (hp1 : (backTo cp1 (starEach [] X.env)).any (·.1) = false := by rfl) (hp2 : (backTo cp2 (starEach [] X.env)).any (·.1) = false := by rfl) :
    SS X W (.Expr (.Call (.Attribute (.Name n p1) nm1 ap1) [.Call (.Attribute (.Name u p2) nm2 ap2) [ie] [] cp2] [] cp1) pos) (sAppPop i j xs) := ⟨fun M0 H0 hd' M m σ H env ph s D q =>
  tWS_of (ps_expr (pe_bm F.plainAttrs_list slot hty rWM_mt (pe_var hN hv hd hcd) (pa_cons (pe_bm F.plainAttrs_list slot2 hty2 mt_popAt (pe_var hN2 hv2 hd2 hcd2) tWA_pa hb2 hf2 hl2 hst2 hp2) pa_nil hst1) hb1 hf1 hl1 hst1 hp1) hs) (by
    obtain ⟨w, h1, h2, w2, h3, h4, h5⟩ := appPop_core i j hij (n := n) (u := u) h s q
    exact ⟨w, h1, h2, w2, h3, h4, h5⟩)⟩
end
end Pyp

/-! list(range(..)), sorted(list of ints), comprehensions with two clauses. -/
namespace Pyp
open PySem PySem.Spec PyProof.Rows L2

def rngV (a : Int) (n : Nat) : List V := (List.range n).map fun i => V.int (a + (i : Nat))
theorem reps_rng {K M H} : ∀ (n : Nat) (a : Int), Reps K M H (rngD a n) (rngV a n)
  | 0, a => Reps.nil
  | n + 1, a => by
    unfold rngV
    rw [List.range_succ_eq_map, List.map_cons, List.map_map, rngD]
    refine .cons (by rw [Rep]; congr 1; simp) ?_
    have e : ((fun i : Nat => V.int (a + (i : Int))) ∘ Nat.succ) = fun i : Nat => V.int ((a + 1) + (i : Int)) := by
      funext i
      show V.int (a + ((i + 1 : Nat) : Int)) = _
      congr 1
      omega
    rw [e]
    exact reps_rng n (a + 1)
def lstRg1 (v : Val) (ph : PH) : Res Val := match v with
  | .d (.int j) => bif okR j then .ok (.own (.lst (rngD 0 j.toNat))) ph else .bad
  | _ => .bad
def lstRg2 (v w : Val) (ph : PH) : Res Val := match v, w with
  | .d (.int i), .d (.int j) => bif okR i && okR j then .ok (.own (.lst (rngD i (j - i).toNat))) ph else .bad
  | _, _ => .bad
def eLRg1 (x : Ex) : Ex := fun env ph => (x env ph).bind lstRg1
def eLRg2 (x y : Ex) : Ex := fun env ph => (x env ph).bind fun v ph1 => (y env ph1).bind fun w ph2 => lstRg2 v w ph2
section
variable {X : Cx} {W : WX} {a b e : Expr} {xa xb : Ex} {p p2 pos pos2 : Pos}
theorem s_lrg1 (hc : X.calm = true) (hm : X.mg "list" = none) (hm2 : X.mg "range" = none) (ha : SE X W a xa) (hg : Gl X "list" := by rfl) (hg2 : Gl X "range" := by rfl)
    (na : starEach [a] X.env = (false, eval a X.env) :: starEach [] X.env := by rfl) (na2 : starEach [.Call (.Name "range" p2) [a] [] pos2] X.env = (false, eval (.Call (.Name "range" p2) [a] [] pos2) X.env) :: starEach [] X.env := by rfl) :
    SE X W (.Call (.Name "list" p) [.Call (.Name "range" p2) [a] [] pos2] [] pos) (eLRg1 xa) := ⟨fun M m σ H env ph r er Q q =>
  tW_of (pe_listRg hc hg hm (prg_1 hg2 hm2 tW_pe na) na2) (by
  refine ha.bind r er q fun va ph1 v1 H1 fr1 r1 er1 rv1 ro1 q1 => ?_
  unfold lstRg1 at q1
  split at q1
  · rename_i j
    rw [cond_eq_ite] at q1
    split at q1
    · rename_i hb
      have hb := okR_is hb
      have g : GE X M m H1 Q (.own (.lst (rngD 0 j.toNat))) ph1 := GE.at fr1 r1 q1
      refine ⟨j, rv_int rv1, ⟨by omega, by omega, by omega, by omega, by omega⟩, fun q hq => ?_⟩
      have e : rgV 0 j = rngV 0 j.toNat := by unfold rgV rngV; rw [Int.sub_zero]
      rw [e]
      exact GE.lst g r1 (reps_rng _ _) q hq
    · exact q1.elim
  · exact q1.elim)⟩
theorem s_lrg2 (hc : X.calm = true) (hm : X.mg "list" = none) (hm2 : X.mg "range" = none) (ha : SE X W a xa) (hb : SE X W b xb) (hg : Gl X "list" := by rfl) (hg2 : Gl X "range" := by rfl)
    (na : starEach [a, b] X.env = (false, eval a X.env) :: starEach [b] X.env := by rfl) (nb : starEach [b] X.env = (false, eval b X.env) :: starEach [] X.env := by rfl) (hp : (backTo pos2 (starEach [b] X.env)).any (·.1) = false := by rfl)
    (na2 : starEach [.Call (.Name "range" p2) [a, b] [] pos2] X.env = (false, eval (.Call (.Name "range" p2) [a, b] [] pos2) X.env) :: starEach [] X.env := by rfl) :
    SE X W (.Call (.Name "list" p) [.Call (.Name "range" p2) [a, b] [] pos2] [] pos) (eLRg2 xa xb) := ⟨fun M m σ H env ph r er Q q =>
  tW_of (pe_listRg hc hg hm (prg_2 hg2 hm2 tW_pe tW_pe na nb hp) na2) (by
  refine ha.bind r er q fun va ph1 v1 H1 fr1 r1 er1 rv1 ro1 q1 => ?_
  refine hb.bind r1 er1 q1 fun vb ph2 v2 H2 fr2 r2 er2 rv2 ro2 q2 => ?_
  unfold lstRg2 at q2
  split at q2
  · rename_i i j
    rw [cond_eq_ite] at q2
    split at q2
    · rename_i hb
      rw [Bool.and_eq_true] at hb
      have hb1 := okR_is hb.1
      have hb2 := okR_is hb.2
      have g : GE X M m H2 Q (.own (.lst (rngD i (j - i).toNat))) ph2 := GE.at (fr1.trans fr2) r2 q2
      refine ⟨i, j, rv_int rv1, rv_int rv2, ⟨by omega, by omega, by omega, by omega, by omega⟩, fun q hq => ?_⟩
      exact GE.lst g r2 (reps_rng _ _) q hq
    · exact q2.elim
  · exact q2.elim)⟩

/-! sorted(xs), xs a list of ints -/
def insI (k : Int) : List Int → List Int
  | [] => [k]
  | x :: xs => if k ≤ x then k :: x :: xs else x :: insI k xs
def sortI (ns : List Int) : List Int := ns.foldr insI []
theorem insI_perm (k : Int) : ∀ xs, (insI k xs).Perm (k :: xs)
  | [] => List.Perm.refl _
  | x :: xs => by
    unfold insI
    split
    · exact List.Perm.refl _
    · exact (List.Perm.cons x (insI_perm k xs)).trans (List.Perm.swap k x xs)
theorem insI_sorted (k : Int) : ∀ xs : List Int, xs.Pairwise (· ≤ ·) → (insI k xs).Pairwise (· ≤ ·)
  | [], _ => by simp [insI]
  | x :: xs, h => by
    obtain ⟨h1, h2⟩ := List.pairwise_cons.mp h
    unfold insI
    split
    · rename_i hk
      refine List.pairwise_cons.mpr ⟨fun y hy => ?_, h⟩
      rcases List.mem_cons.mp hy with e | hy
      · subst e; exact hk
      · have := h1 y hy; omega
    · refine List.pairwise_cons.mpr ⟨fun y hy => ?_, insI_sorted k xs h2⟩
      rcases List.mem_cons.mp ((insI_perm k xs).mem_iff.mp hy) with e | hy
      · subst e; omega
      · exact h1 y hy
theorem sortI_perm : ∀ ns, (sortI ns).Perm ns
  | [] => List.Perm.refl _
  | n :: ns => (insI_perm n _).trans (List.Perm.cons n (sortI_perm ns))
theorem sortI_sorted : ∀ ns, (sortI ns).Pairwise (· ≤ ·)
  | [] => .nil
  | n :: ns => insI_sorted n _ (sortI_sorted ns)
theorem le_eq : ∀ {xs ys : List Int}, xs.Perm ys → xs.Pairwise (· ≤ ·) → ys.Pairwise (· ≤ ·) → xs = ys
  | [], ys, p, _, _ => p.nil_eq
  | x :: xs, [], p, _, _ => absurd p.symm.nil_eq (by simp)
  | x :: xs, y :: ys, p, hx, hy => by
    obtain ⟨a1, a2⟩ := List.pairwise_cons.mp hx
    obtain ⟨b1, b2⟩ := List.pairwise_cons.mp hy
    have e : x = y := by
      have p1 := p.mem_iff.mp (List.mem_cons_self (a := x) (l := xs))
      have q1 := p.mem_iff.mpr (List.mem_cons_self (a := y) (l := ys))
      rcases List.mem_cons.mp p1 with e | p1
      · exact e
      · rcases List.mem_cons.mp q1 with e | q1
        · exact e.symm
        · have := b1 x p1; have := a1 y q1; omega
    subst e
    rw [le_eq (List.Perm.cons_inv p) a2 b2]
def dSortI : D → Option Val
  | .lst ds => (intsD ds).map fun ns => .own (.lst ((sortI ns).map .int))
  | _ => none
theorem s_sortI (hm : X.mg "sorted" = none) (ha : SE X W a xa) (hg : Gl X "sorted" := by rfl) (hv : bootBuiltins "sorted" = some (.builtin "sorted") := by rfl)
    (he : starEach [a] X.env = (false, eval a X.env) :: starEach [] X.env := by rfl) (hpl : (backTo pos (starEach [] X.env)).any (·.1) = false := by rfl) :
    SE X W (.Call (.Name "sorted" p) [a] [] pos) (eD dSortI xa) := ⟨fun M m σ H env ph r er Q q =>
  tW_of (pe_callB cr_sortedI hg hm hv (pa_cons tW_pe pa_nil he) (by decide) (by decide) he hpl) (by
  refine ha.bind r er q fun va ph1 v1 H1 fr1 r1 er1 rv1 _ q1 => ?_
  split at q1
  · rename_i d ed
    obtain ⟨val, ev, g⟩ := Post.of (Q := Q) (M := M) (m := m) (H := H1) (X := X) (W := W) (σ := σ) (o := dSortI d) (ph := ph1) (Post.mono (fun _ _ g => GE.at fr1 r1 g) q1)
    cases d with
    | lst ds =>
      obtain ⟨a, xs, rfl, t, rs⟩ := cr_lst (rv1.cr r1 ed)
      have ev' : (intsD ds).map (fun ns => Val.own (.lst ((sortI ns).map .int))) = some val := ev
      cases hi : intsD ds with
      | none => rw [hi] at ev'; cases ev'
      | some ns =>
        rw [hi] at ev'
        cases ev'
        have ex := intsD_rep hi rs
        subst ex
        refine ⟨a, ns, rfl, SqL.of t, fun ns' p3 hpm hpw hp3 => ?_⟩
        have e : ns' = sortI ns := le_eq (hpm.trans (sortI_perm ns).symm) hpw (sortI_sorted ns)
        subst e
        exact GE.lst g r1 (reps_ints _) p3 hp3
    | _ => cases ev
  · exact q1.elim)⟩
end

/-! comprehensions with two clauses -/
section
variable {J : It} {n : Nat} {G : Hp → Prop} {Y : Nat → Hp → V → Hp → Prop}
theorem wk_it (w : Walk J n G Y) (Pv : Nat → Hp → Prop) {H0 : Hp} (h0 : Pv 0 H0) (hG : ∀ i H, i ≤ n → Pv i H → G H) (S : (Hp → Prop) → V → Hp → Prop) (Qd : Hp → Prop)
    (hs : ∀ i x H H', i < n → Pv i H → Y i H x H' → S (Pv (i + 1)) x H') (hd : ∀ H, Pv n H → Qd H) :
    ∃ W : Nat → Nat → Hp → Prop, (∃ m, W 0 m H0) ∧ ∀ i m H, W i m H → (J.stop i H ∧ Qd H) ∨ (J.go i H ∧ ∃ Nx : Hp → Prop, (∀ H', Nx H' → ∃ m', m' < m ∧ W (i + 1) m' H') ∧ ∀ x H', J.yld i H x H' → S Nx x H') := by
  refine ⟨fun i m H => m = n - i ∧ i ≤ n ∧ Pv i H, ⟨n, by simp, Nat.zero_le _, h0⟩, ?_⟩
  rintro i m H ⟨rfl, hi, p⟩
  have q := hG i H hi p
  by_cases hlt : i < n
  · exact .inr ⟨w.goes i H hlt q, Pv (i + 1), fun H' p' => ⟨n - (i + 1), by omega, rfl, hlt, p'⟩, fun x H' y => hs i x H H' hlt p (w.yields i H x H' hlt q y)⟩
  · have e : i = n := by omega
    subst e
    exact .inl ⟨w.stops H q, hd H p⟩
end
/-- what comes behind, errors not covered -/
def Res.only {α β : Type} (r : Res α) (f : α → PH → Res β) : Res β := match r with
  | .ok a ph => f a ph
  | _ => .bad
@[simp] theorem Res.only_ok {α β : Type} (a : α) (ph : PH) (f : α → PH → Res β) : (Res.ok a ph).only f = f a ph := rfl
@[simp] theorem Res.only_exc {α β : Type} (c : Str) (fs : List (Str × D)) (ph : PH) (f : α → PH → Res β) : (Res.exc c fs ph : Res α).only f = .bad := rfl
@[simp] theorem Res.only_bad {α β : Type} (f : α → PH → Res β) : (Res.bad : Res α).only f = .bad := rfl
theorem only_only {α β γ : Type} (r : Res α) (f : α → PH → Res β) (h : β → PH → Res γ) : (r.only f).only h = r.only fun a ph => (f a ph).only h := by cases r <;> rfl
theorem Post.only {X : Cx} {W : WX} {M m σ H} {α β γ : Type} {G : γ → PH → Prop} {r : Res α} {f : α → PH → Res β} {k : β → PH → Res γ} (q : Post X W M m σ H G ((r.only f).bind k)) : ∃ a ph, r = .ok a ph ∧ Post X W M m σ H G ((f a ph).bind k) := by
  cases r with
  | ok a ph => exact ⟨a, ph, rfl, q⟩
  | exc c fs ph => exact False.elim q
  | bad => exact False.elim q
def compL2 (g : Gx) (t : Tx) (it1 : Ix) (own1 : List Nat) (g1 : Gx) (t1 : Tx) (x : Ex) (env : Env) : List D → List D → PH → Res (List D)
  | [], acc, ph => .ok acc ph
  | d :: ds, acc, ph => match g d env with
    | some env1 => (t env1 ph).only fun b ph1 => bif b then (it1 env1 ph1).only fun ds1 ph2 => (compL g1 t1 x (wipeE env1 own1) ds1 acc ph2).only fun acc2 ph3 => compL2 g t it1 own1 g1 t1 x env ds acc2 ph3
        else compL2 g t it1 own1 g1 t1 x env ds acc ph1
    | none => .bad
theorem compL_only (g : Gx) (t : Tx) (x : Ex) (env : Env) (d : D) (ds acc : List D) (ph : PH) : compL g t x env (d :: ds) acc ph = match g d env with
    | some env1 => (t env1 ph).only fun b ph1 => bif b then (x env1 ph1).only fun v ph2 => (match v.dat with
        | some y => if acc.length < lim then compL g t x env ds (acc ++ [y]) ph2 else .bad
        | none => .bad)
        else compL g t x env ds acc ph1
    | none => .bad := by
  rw [compL]
  cases g d env with
  | none => rfl
  | some env1 =>
    dsimp only
    cases ht : t env1 ph with
    | ok b ph1 =>
      cases b with
      | false => rfl
      | true =>
        cases hx : x env1 ph1 with
        | ok v ph2 =>
          simp [hx] <;> (cases v.dat <;> rfl)
        | exc c fs ph2 => simp [hx]
        | bad => simp [hx]
    | exc c fs ph1 => rfl
    | bad => rfl
def eComp2 (own own1 : List Nat) (g : Gx) (it : Ix) (t : Tx) (g1 : Gx) (it1 : Ix) (t1 : Tx) (x : Ex) : Ex := fun env ph => (it env ph).bind fun ds ph1 => (compL2 g t it1 own1 g1 t1 x (wipeE env own) ds [] ph1).bind fun out ph2 => .ok (.own (.lst out)) ph2
def iBlk (X : Cx) (scope : Scope) (tg iter : Expr) : TI := fun σ H R => ∀ (s : Shared) (H' : Hp) (C : Addr) (cl : List (Str × Addr)) (fp : List Addr), tWI (X.blk s H' scope (compEnvC scope cl C X.env) fp) tg iter σ H R
/-- the list grows at Dd -/
structure Grw (K : Kx) (M : Addr → Prop) (m : List Addr) (H1 : Hp) (Dd : Addr) (σ : L2.St) (env : Env) (hdI : V → D → Prop) (Hc : Hp) (acc : List D) (ph : PH) : Prop where
  fr : Frame m H1 Hc
  rel : Rel K (MAdd M Dd) m Hc ph
  at_ : ∃ accV, Hc Dd = some (.lst accV) ∧ Reps K (MAdd M Dd) Hc acc accV
  held : ∀ v d, hdI v d → Held K (MAdd M Dd) m Hc v d
  er : EnvR K (MAdd M Dd) m σ Hc env
theorem Grw.keep {K M m H1 Dd σ env hdI Hc acc ph H2 ph2} (g : Grw K M m H1 Dd σ env hdI Hc acc ph) (hD : H1 Dd = none) (Dm : Dd ∉ m) (f : Frame m Hc H2) (r : Rel K (MAdd M Dd) m H2 ph2) : Grw K M m H1 Dd σ env hdI H2 acc ph2 := by
  obtain ⟨accV, h1, h2⟩ := g.at_
  exact ⟨g.fr.trans f, r, ⟨accV, f Dd _ h1 Dm, Reps.keep (f.keep g.rel) _ _ h2⟩, fun v d z => (g.held v d z).keep g.rel f, g.er.keep g.rel f⟩
theorem EnvR.push {K M m σ Hc env Dd accV yv} (er : EnvR K (MAdd M Dd) m σ Hc env) (hne : ∀ (j : Nat) (z : D) (a : Addr), env[j]? = some (some (.own z)) → σ[j]? = some (some (V.ref a)) → a ≠ Dd) : EnvR K (MAdd M Dd) m σ (upd Hc Dd (.lst (accV ++ [yv]))) env := by
  have kk : KeepP (MAdd M Dd) Hc (upd Hc Dd (.lst (accV ++ [yv]))) := fun b o hb n => by rw [upd_ne (fun e => n (.inr e))]; exact hb
  have ka : ∀ b o, b ≠ Dd → Hc b = some o → upd Hc Dd (.lst (accV ++ [yv])) b = some o := fun b o hb h => by rw [upd_ne hb]; exact h
  have cka : ∀ {b d}, b ≠ Dd → Cont K (MAdd M Dd) Hc b d → Cont K (MAdd M Dd) (upd Hc Dd (.lst (accV ++ [yv]))) b d := fun {b d} hb c => c.keep kk fun o z => ka b o hb z
  refine ⟨er.1, fun j z ez => ?_⟩
  obtain ⟨v', h1, h2⟩ := er.2 j z ez
  refine ⟨v', h1, ?_⟩
  cases z with
  | d z => exact Rep.keep kk _ _ h2
  | own z =>
    obtain ⟨a, e, ma, am, c⟩ := h2
    subst e
    exact ⟨a, rfl, ma, am, cka (hne j z a ez h1) c⟩
  | bor z => exact h2.elim
  | ref n => exact h2
theorem own_ne {K M m σ H1 env Dd ph0} (r : Rel K M m H1 ph0) (er1 : EnvR K M m σ H1 env) (hD : H1 Dd = none) (j : Nat) (z : D) (a : Addr) (e : env[j]? = some (some (.own z))) (e2 : σ[j]? = some (some (V.ref a))) : a ≠ Dd := by
  obtain ⟨v0, g1, a0, g2, g3, _⟩ := er1.2 j _ e
  rw [e2] at g1
  cases g1
  cases g2
  intro h
  subst h
  exact r.notM hD g3
/-- one more -/
theorem Grw.push {K M m H1 Dd σ env hdI Hc acc ph y yv ph0} (g : Grw K M m H1 Dd σ env hdI Hc acc ph) (r : Rel K M m H1 ph0) (er1 : EnvR K M m σ H1 env) (hD : H1 Dd = none) (Dm : Dd ∉ m) (hh : ∀ v d, hdI v d → Held K M m H1 v d) (ry : Rep K (MAdd M Dd) Hc y yv) {accV : List V} (hDc : Hc Dd = some (.lst accV)) :
    Grw K M m H1 Dd σ env hdI (upd Hc Dd (.lst (accV ++ [yv]))) (acc ++ [y]) ph := by
  obtain ⟨accV', h1, ra⟩ := g.at_
  rw [hDc] at h1
  cases h1
  have kk : KeepP (MAdd M Dd) Hc (upd Hc Dd (.lst (accV ++ [yv]))) := fun b o hb n => by rw [upd_ne (fun e => n (.inr e))]; exact hb
  have ka : ∀ b o, b ≠ Dd → Hc b = some o → upd Hc Dd (.lst (accV ++ [yv])) b = some o := fun b o hb h => by rw [upd_ne hb]; exact h
  have cka : ∀ {b d}, b ≠ Dd → Cont K (MAdd M Dd) Hc b d → Cont K (MAdd M Dd) (upd Hc Dd (.lst (accV ++ [yv]))) b d := fun {b d} hb c => c.keep kk fun o z => ka b o hb z
  refine ⟨fun b o hb hm => ?_, ⟨g.rel.len, g.rel.nd, g.rel.sub, fun b z => ?_, fun n b d e1 e2 => cka (fun e => Dm (e ▸ List.mem_of_getElem? e1)) (g.rel.cont n b d e1 e2)⟩, ⟨accV ++ [yv], upd_same, Reps.append (Reps.keep kk _ _ ra) (.cons (Rep.keep kk _ _ ry) .nil)⟩, fun v d z => ?_, g.er.push (own_ne r er1 hD)⟩
  · have h2 := g.fr b o hb hm
    rw [upd_ne (ne_of_none hb hD)]; exact h2
  · by_cases hb : b = Dd
    · subst hb; exact ⟨_, upd_same⟩
    · obtain ⟨o, e⟩ := g.rel.dom b z
      exact ⟨o, ka b o hb e⟩
  · rcases g.held v d z with h | ⟨a, e, n, c⟩
    · exact .inl (Rep.keep kk _ _ h)
    · by_cases ha : a = Dd
      · subst ha
        rcases hh v d z with h0 | ⟨a0, e0, n0, c0⟩
        · have h6 : Rep K (MAdd M a) H1 d v := Rep.fresh hD _ _ h0
          exact .inl (Rep.keep (fun b o hb nn => by
            rw [upd_ne (ne_of_none hb hD)]
            exact g.fr b o hb fun q => nn (.inl (r.sub b q))) _ _ h6)
        · subst e0
          cases e
          obtain ⟨o, ho⟩ := c0.some
          rw [hD] at ho; cases ho
      · exact .inr ⟨a, e, n, cka ha c⟩
section
variable {X : Cx}
theorem STs.w {W : WX} {ifs : List Expr} {x : Tx} {M m σ H env ph Q} (h : STs X W ifs x) (r : Rel (kx X) M m H ph) (er : EnvR (kx X) M m σ H env) (q : Post X W M m σ H (GT X M m H Q) (x env ph)) : tWTs X ifs σ H Q :=
  let ⟨_, p, q⟩ := h.run M m σ H env ph r er Q q
  tWTs_of p q
theorem comp2_core {W : WX} {elt tg iter tg1 iter1 : Expr} {ifs ifs1 : List Expr} {scope : Scope} {own : List (Str × Nat)} {own1 : List Nat} {it it1 : Ix} {g g1 : Gx} {sl sl1 : List Nat} {t t1 : Tx} {x : Ex} (hi : SI X W tg iter it false) (hsl : ∀ j ∈ sl, j ∈ own.map (·.2)) (hsl1 : ∀ j ∈ sl1, j ∈ own1)
    (hg : ∀ (s : Shared) (H : Hp) (C : Addr) (cl : List (Str × Addr)) (fp : List Addr), SG (X.blk s H scope (compEnvC scope cl C X.env) fp) tg g sl) (ht : ∀ (s : Shared) (H : Hp) (C : Addr) (cl : List (Str × Addr)) (fp : List Addr), STs (X.blk s H scope (compEnvC scope cl C X.env) fp) W0 ifs t)
    (hi1 : ∀ (s : Shared) (H : Hp) (C : Addr) (cl : List (Str × Addr)) (fp : List Addr), SI (X.blk s H scope (compEnvC scope cl C X.env) fp) W0 tg1 iter1 it1 true)
    (hg1 : ∀ (s : Shared) (H : Hp) (C : Addr) (cl : List (Str × Addr)) (fp : List Addr), SG (X.blk s H scope (compEnvC scope cl C X.env) fp) tg1 g1 sl1) (ht1 : ∀ (s : Shared) (H : Hp) (C : Addr) (cl : List (Str × Addr)) (fp : List Addr), STs (X.blk s H scope (compEnvC scope cl C X.env) fp) W0 ifs1 t1)
    (he : ∀ (s : Shared) (H : Hp) (C : Addr) (cl : List (Str × Addr)) (fp : List Addr), SE (X.blk s H scope (compEnvC scope cl C X.env) fp) W0 elt x) {M m σ H env ph} {Q : VK} (r : Rel (kx X) M m H ph) (er : EnvR (kx X) M m σ H env)
    (q : Post X W M m σ H (GE X M m H Q) (eComp2 (own.map (·.2)) own1 g it t g1 it1 t1 x env ph)) :
    tLc2 (tWI X tg iter) (gBlk X scope tg) (tBlk X scope ifs) (iBlk X scope tg1 iter1) (gBlk X scope tg1) (tBlk X scope ifs1) (eBlk X scope elt) (own.map (·.2)) own1 σ H Q := by
  refine hi.run M m σ H env ph r er _ ?_
  have q' : Post X W M m σ H (GE X M m H Q) ((it env ph).bind fun ds ph1 => (compL2 g t it1 own1 g1 t1 x (wipeE env (own.map (·.2))) ds [] ph1).bind fun out ph2 => .ok (.own (.lst out)) ph2) := q
  cases hit : it env ph with
  | bad => rw [hit] at q'; exact q'
  | exc c fs ph1 => rw [hit] at q'; exact q'
  | ok ds ph1 =>
    rw [hit, Res.bind_ok] at q'
    intro J hdI H1 fr r1 hh _ dr Dd hD
    have er1 := er.keep r fr
    have w : Walk J ds.length (fun H => ∃ M, (∀ a, M a → ∃ o, H a = some o) ∧ ∀ v d, hdI v d → CR (kx X) M H d v) (fun i H x H' => J.yld i H x H') :=
      ⟨fun i H hi ⟨M, _, h⟩ => dr.goes i H M h hi, fun H ⟨M, _, h⟩ => dr.stops H M h, fun i H x H' _ _ y => y⟩
    have Dm : Dd ∉ m := fun z => r1.notM hD (r1.sub Dd z)
    refine wk_it w (fun i Hc => ∃ acc phc, Grw (kx X) M m H1 Dd σ env hdI Hc acc phc ∧ Post X W M m σ H (GE X M m H Q) ((compL2 g t it1 own1 g1 t1 x (wipeE env (own.map (·.2))) (ds.drop i) acc phc).bind fun out ph2 => .ok (.own (.lst out)) ph2))
      ⟨[], ph1, ⟨Frame.new hD, r1.newM hD, ⟨[], upd_same, Reps.nil⟩, fun v d z => ?_, er1.newM hD⟩, by simpa using q'⟩
      (fun i Hc _ ⟨acc, phc, gw, _⟩ => ⟨MAdd M Dd, gw.rel.dom, fun v d z => (gw.held v d z).cr⟩) _ _ (fun i xv H2 H2' hi ⟨acc, phc, gw, qc⟩ y => ?_) (fun Hc ⟨acc, phc, gw, qc⟩ => ?_)
    · rcases hh v d z with h | ⟨a, e, n, c⟩
      · exact .inl (Rep.keep (keep_new hD) _ _ (Rep.fresh hD _ _ h))
      · exact .inr ⟨a, e, n, (c.fresh hD).keep (keep_new hD) fun u z => by rw [upd_ne (ne_of_none z hD)]; exact z⟩
    · rw [drop_cons hi] at qc
      obtain ⟨gr, rx⟩ := dr.yields i H2 (MAdd M Dd) xv H2' ds[i] (fun v d z => (gw.held v d z).cr) gw.rel.dom (List.getElem?_eq_getElem hi) y
      have r3' := gr.rel gw.rel
      have f3' : Frame m H2 H2' := gr.frame
      rw [compL2] at qc
      intro s0 H0' C cl fp
      cases hge : g ds[i] (wipeE env (own.map (·.2))) with
      | none => rw [hge] at qc; exact False.elim qc
      | some env1 =>
        rw [hge] at qc
        refine (hg s0 H0' C cl fp).run (MAdd M Dd) m (wipe σ (own.map (·.2))) H2' (wipeE env (own.map (·.2))) phc ds[i] xv env1 r3' (wipe_env (gw.er.keep gw.rel f3') _) (by rw [wipeE_length, wipe_length, er.1]) rx hge _ ?_
        intro σ2 H3 f3g r3 er2 ch
        have gw3 := gw.keep hD Dm (f3'.trans f3g) r3
        have ne2 : ∀ (j : Nat) (z : D) (a : Addr), env1[j]? = some (some (.own z)) → σ2[j]? = some (some (V.ref a)) → a ≠ Dd := fun j z a e1 e2 => by
          have nj : j ∉ sl := fun h => ch.inE j z h e1
          rw [ch.outE j nj] at e1
          rw [ch.outS j nj] at e2
          obtain ⟨e3, nv⟩ := wipeE_some e1
          rw [wipe_out' nv] at e2
          exact own_ne r1 er1 hD j z a e3 e2
        refine ⟨?_, ?_⟩
        · rw [wipe_chg ch hsl, wipe_wipe]
        · intro s0 H0' C cl fp
          refine (ht s0 H0' C cl fp).w (M := MAdd M Dd) (m := m) (env := env1) (ph := phc) r3 er2 ?_
          obtain ⟨b, ph4, hte, q3⟩ := Post.only qc
          rw [hte]
          intro H4 f4 r4
          have f4 : Frame m H3 H4 := f4
          have r4 : Rel (kx X) (MAdd M Dd) m H4 ph4 := r4
          have gw4 := gw3.keep hD Dm f4 r4
          cases b with
          | false => exact ⟨acc, ph4, gw4, q3⟩
          | true =>
            rw [if_pos rfl]
            intro s0 H0' C cl fp
            refine (hi1 s0 H0' C cl fp).run (MAdd M Dd) m σ2 H4 env1 ph4 r4 (er2.keep r3 f4) _ ?_
            obtain ⟨ds1, ph5, hit1, q4⟩ := Post.only (show Post X W M m σ H (GE X M m H Q) (((it1 env1 ph4).only fun ds1 ph2 => (compL g1 t1 x (wipeE env1 own1) ds1 acc ph2).only fun acc2 ph3 => compL2 g t it1 own1 g1 t1 x (wipeE env (own.map (·.2))) (ds.drop (i + 1)) acc2 ph3).bind fun out ph2 => .ok (.own (.lst out)) ph2) from q3)
            rw [hit1]
            intro J1 hd1 H5 f5 r5 hh1 hrep1 dr1
            have hrep := hrep1 rfl
            have f5 : Frame m H4 H5 := f5
            have r5 : Rel (kx X) (MAdd M Dd) m H5 ph5 := r5
            have gw5 := gw4.keep hD Dm f5 r5
            have er4 : EnvR (kx X) (MAdd M Dd) m σ2 H4 env1 := er2.keep r3 f4
            have er5 : EnvR (kx X) (MAdd M Dd) m σ2 H5 env1 := er4.keep r4 f5
            have w1 : Walk J1 ds1.length (fun H => ∃ M, (∀ a, M a → ∃ o, H a = some o) ∧ ∀ v d, hd1 v d → CR (kx X) M H d v) (fun i H x H' => J1.yld i H x H') :=
              ⟨fun i H hi ⟨M, _, h⟩ => dr1.goes i H M h hi, fun H ⟨M, _, h⟩ => dr1.stops H M h, fun i H x H' _ _ y => y⟩
            refine wk_it w1 (fun j Hc => ∃ acc phc, Grw (kx X) M m H1 Dd σ env hdI Hc acc phc ∧ EnvR (kx X) (MAdd M Dd) m σ2 Hc env1 ∧ (∀ v d, hd1 v d → Rep (kx X) (MAdd M Dd) Hc d v) ∧
                Post X W M m σ H (GE X M m H Q) (((compL g1 t1 x (wipeE env1 own1) (ds1.drop j) acc phc).only fun acc2 ph3 => compL2 g t it1 own1 g1 t1 x (wipeE env (own.map (·.2))) (ds.drop (i + 1)) acc2 ph3).bind fun out ph2 => .ok (.own (.lst out)) ph2))
              ⟨acc, ph5, gw5, er5, hrep, by simpa using q4⟩ (fun j Hc _ ⟨acc, phc, gw, _, hr, _⟩ => ⟨MAdd M Dd, gw.rel.dom, fun v d z => (hr v d z).cr⟩) _ _ (fun j xv1 H6 H6' hj ⟨acc6, ph6, gw6, er6, hr6, q6⟩ y1 => ?_) (fun Hc ⟨acc6, ph6, gw6, er6, hr6, q6⟩ => ?_)
            · rw [drop_cons hj, compL_only] at q6
              obtain ⟨gr1, rx1⟩ := dr1.yields j H6 (MAdd M Dd) xv1 H6' ds1[j] (fun v d z => (hr6 v d z).cr) gw6.rel.dom (List.getElem?_eq_getElem hj) y1
              have r6' := gr1.rel gw6.rel
              have f6' : Frame m H6 H6' := gr1.frame
              intro s0 H0' C cl fp
              cases hge1 : g1 ds1[j] (wipeE env1 own1) with
              | none => rw [hge1] at q6; exact False.elim q6
              | some env2 =>
                rw [hge1] at q6
                refine (hg1 s0 H0' C cl fp).run (MAdd M Dd) m (wipe σ2 own1) H6' (wipeE env1 own1) ph6 ds1[j] xv1 env2 r6' (wipe_env (er6.keep gw6.rel f6') _) (by rw [wipeE_length, wipe_length, er6.1]) rx1 hge1 _ ?_
                intro σ3 H7 f7 r7 er7 ch7
                have f7 : Frame m H6' H7 := f7
                have r7 : Rel (kx X) (MAdd M Dd) m H7 ph6 := r7
                have gw7 := gw6.keep hD Dm (f6'.trans f7) r7
                refine ⟨?_, ?_⟩
                · rw [wipe_chg ch7 hsl1, wipe_wipe]
                · intro s0 H0' C cl fp
                  refine (ht1 s0 H0' C cl fp).w (M := MAdd M Dd) (m := m) (env := env2) (ph := ph6) r7 er7 ?_
                  have q7 := q6
                  rw [only_only] at q7
                  obtain ⟨b, ph8, hte1, q8⟩ := Post.only q7
                  rw [hte1]
                  intro H8 f8 r8
                  have f8 : Frame m H7 H8 := f8
                  have r8 : Rel (kx X) (MAdd M Dd) m H8 ph8 := r8
                  have gw8 := gw7.keep hD Dm f8 r8
                  have fall := (f6'.trans f7).trans f8
                  have er8 : EnvR (kx X) (MAdd M Dd) m σ2 H8 env1 := er6.keep gw6.rel fall
                  have hr8 : ∀ v d, hd1 v d → Rep (kx X) (MAdd M Dd) H8 d v := fun v d z => Rep.keep (fall.keep gw6.rel) _ _ (hr6 v d z)
                  cases b with
                  | false => exact ⟨acc6, ph8, gw8, er8, hr8, q8⟩
                  | true =>
                    rw [if_pos rfl]
                    intro s0 H0' C cl fp
                    refine (he s0 H0' C cl fp).run (MAdd M Dd) m σ3 H8 env2 ph8 r8 (er7.keep r7 f8) _ ?_
                    have q9 : Post X W M m σ H (GE X M m H Q) ((((x env2 ph8).only fun v ph2 => (match v.dat with
                      | some y => if acc6.length < lim then compL g1 t1 x (wipeE env1 own1) (ds1.drop (j + 1)) (acc6 ++ [y]) ph2 else .bad
                      | none => .bad)).only fun acc2 ph3 => compL2 g t it1 own1 g1 t1 x (wipeE env (own.map (·.2))) (ds.drop (i + 1)) acc2 ph3).bind fun out ph2 => .ok (.own (.lst out)) ph2) := q8
                    rw [only_only] at q9
                    obtain ⟨v, ph9, hxe, q10⟩ := Post.only q9
                    rw [hxe]
                    intro yv H9 f9 r9 rv9 _
                    have f9 : Frame m H8 H9 := f9
                    have r9 : Rel (kx X) (MAdd M Dd) m H9 ph9 := r9
                    have rv9 : RV (kx X) (MAdd M Dd) m H8 H9 yv v := rv9
                    cases hda : v.dat with
                    | none => rw [hda] at q10; exact False.elim q10
                    | some y =>
                      rw [hda] at q10
                      have ry := rv9.dat hda
                      have gw9 := gw8.keep hD Dm f9 r9
                      obtain ⟨accV, hDc, ra⟩ := gw9.at_
                      by_cases hlen : acc6.length < lim
                      · have q11 : Post X W M m σ H (GE X M m H Q) (((if acc6.length < lim then compL g1 t1 x (wipeE env1 own1) (ds1.drop (j + 1)) (acc6 ++ [y]) ph9 else .bad : Res (List D)).only fun acc2 ph3 => compL2 g t it1 own1 g1 t1 x (wipeE env (own.map (·.2))) (ds.drop (i + 1)) acc2 ph3).bind fun out ph2 => .ok (.own (.lst out)) ph2) := q10
                        rw [if_pos hlen] at q11
                        have kk : KeepP (MAdd M Dd) H9 (upd H9 Dd (.lst (accV ++ [yv]))) := fun b o hb n => by rw [upd_ne (fun e => n (.inr e))]; exact hb
                        refine ⟨accV, hDc, ?_, acc6 ++ [y], ph9, gw9.push r1 er1 hD Dm hh ry hDc, (er8.keep r8 f9).push ne2, fun v d z => Rep.keep kk _ _ (Rep.keep (f9.keep r8) _ _ (hr8 v d z)), q11⟩
                        rw [ra.length]; exact lim_lt (Nat.le_of_lt hlen)
                      · have q11 : Post X W M m σ H (GE X M m H Q) (((if acc6.length < lim then compL g1 t1 x (wipeE env1 own1) (ds1.drop (j + 1)) (acc6 ++ [y]) ph9 else .bad : Res (List D)).only fun acc2 ph3 => compL2 g t it1 own1 g1 t1 x (wipeE env (own.map (·.2))) (ds.drop (i + 1)) acc2 ph3).bind fun out ph2 => .ok (.own (.lst out)) ph2) := q10
                        rw [if_neg hlen] at q11
                        exact False.elim q11
            · rw [List.drop_length, compL] at q6
              exact ⟨acc6, ph6, gw6, q6⟩
    · rw [List.drop_length, compL2] at qc
      have k0 : ∀ b, M b → MAdd M Dd b := fun b z => .inl z
      obtain ⟨accV, hDc, ra⟩ := gw.at_
      refine qc (.ref Dd) Hc (fr.trans gw.fr) (gw.rel.anti k0 r.sub) ⟨Dd, rfl, fr.back r1 hD, r1.notM hD, accV, hDc, Reps.anti k0 _ _ ra⟩ fun d e a ea => ?_
      cases e; cases ea
      exact ⟨gw.rel, accV, hDc, ra⟩
end
section
variable {X : Cx} {W : WX} {elt tg iter tg1 iter1 : Expr} {ifs ifs1 : List Expr} {scope : Scope} {own : List (Str × Nat)} {own1 : List Nat} {it it1 : Ix} {g g1 : Gx} {sl sl1 : List Nat} {t t1 : Tx} {x : Ex} {pos : Pos}
theorem iBlk_pi (s : Shared) (H : Hp) (C : Addr) (cl : List (Str × Addr)) (fp : List Addr) : PI (X.blk s H scope (compEnvC scope cl C X.env) fp) tg1 iter1 (iBlk X scope tg1 iter1) := ⟨fun pins s0 σ H0 R I h => h s H C cl fp pins s0 I⟩
theorem s_comp2 (own : List (Str × Nat)) (own1 : List Nat) (hc : X.calm = true) (hN : X.N.Nodup) (ok : BlkOk X.N X.env.scope scope own) (hv : ∀ i ∈ own1, i ∈ own.map (·.2)) (hi : SI X W tg iter it false) (hsl : ∀ j ∈ sl, j ∈ own.map (·.2)) (hsl1 : ∀ j ∈ sl1, j ∈ own1)
    (hg : ∀ (s : Shared) (H : Hp) (C : Addr) (cl : List (Str × Addr)) (fp : List Addr), SG (X.blk s H scope (compEnvC scope cl C X.env) fp) tg g sl) (ht : ∀ (s : Shared) (H : Hp) (C : Addr) (cl : List (Str × Addr)) (fp : List Addr), STs (X.blk s H scope (compEnvC scope cl C X.env) fp) W0 ifs t)
    (hi1 : ∀ (s : Shared) (H : Hp) (C : Addr) (cl : List (Str × Addr)) (fp : List Addr), SI (X.blk s H scope (compEnvC scope cl C X.env) fp) W0 tg1 iter1 it1 true)
    (hg1 : ∀ (s : Shared) (H : Hp) (C : Addr) (cl : List (Str × Addr)) (fp : List Addr), SG (X.blk s H scope (compEnvC scope cl C X.env) fp) tg1 g1 sl1) (ht1 : ∀ (s : Shared) (H : Hp) (C : Addr) (cl : List (Str × Addr)) (fp : List Addr), STs (X.blk s H scope (compEnvC scope cl C X.env) fp) W0 ifs1 t1)
    (he : ∀ (s : Shared) (H : Hp) (C : Addr) (cl : List (Str × Addr)) (fp : List Addr), SE (X.blk s H scope (compEnvC scope cl C X.env) fp) W0 elt x) (hs : ∀ x, foldedSetIterable iter X.env x = pure x := by intro _; rfl) (hs1 : ∀ env x, foldedSetIterable iter1 env x = pure x := by intro _ _; rfl) :
    SE X W (.ListComp elt [⟨tg, iter, ifs, 0⟩, ⟨tg1, iter1, ifs1, 0⟩] scope pos) (eComp2 (own.map (·.2)) own1 g it t g1 it1 t1 x) :=
  ⟨fun M m σ H env ph r er Q q => tW_of (pe_lc2 hc hN tWI_pi ok hv gBlk_pg tBlk_pt iBlk_pi gBlk_pg tBlk_pt eBlk_pe hs hs1) (comp2_core hi hsl hsl1 hg ht hi1 hg1 ht1 he r er q)⟩
end
end Pyp

/-! Many names at once by way of a tuple; each may be the holder of a list just made. -/
namespace Pyp
open PySem PySem.Spec PyProof.Rows L2
def parN : List Nat → List Ex → Env → Env → PH → Out
  | [], [], _, env1, ph => .nx env1 ph
  | i :: is, x :: xs, env, env1, ph => (x env ph).bindS env fun v ph1 => (varEnd i env1 v ph1).bind fun env2 ph2 => parN is xs env env2 ph2
  | _, _, _, _, _ => .bad
def sParN (is : List Nat) (xs : List Ex) : Sx := fun env ph => parN is xs env env ph
inductive SEs (X : Cx) (W : WX) : List Expr → List Ex → Prop where
  | nil : SEs X W [] []
  | cons {e : Expr} {es : List Expr} {x : Ex} {xs : List Ex} (h : SE X W e x) (hs : SEs X W es xs) (hst : starEach (e :: es) X.env = (false, eval e X.env) :: starEach es X.env := by rfl) : SEs X W (e :: es) (x :: xs)
inductive NGs (X : Cx) : List Expr → List Nat → Prop where
  | nil : NGs X [] []
  | cons {n : Str} {pos : Pos} {es : List Expr} {is : List Nat} (i : Nat) (hs : NGs X es is) (hi : X.N[i]? = some n := by rfl) (hx : Loc X.env.scope n := by first | exact .inl rfl | exact .inr rfl) (hf : X.fn n = true ∨ X.env.scope.names.lookup n = some .local := by first | exact .inl rfl | exact .inr rfl)
      (hst : (assignEach (.Name n pos :: es) X.env).map (·.2) = assign (.Name n pos) X.env :: (assignEach es X.env).map (·.2) := by rfl) : NGs X (.Name n pos :: es) (i :: is)
def setAll : L2.St → List Nat → List V → L2.St
  | σ, i :: is, v :: vs => setAll (σ.set i (some v)) is vs
  | σ, _, _ => σ
section
variable {X : Cx} {W : WX}
theorem ngs_run (hN : X.N.Nodup) {ts : List Expr} {is : List Nat} (h : NGs X ts is) : ∀ (vs : List V) (σ : L2.St) (H : Hp) (Q : L2.St → Hp → Prop), vs.length = is.length → Q (setAll σ is vs) H → tWGs X ts vs σ H Q := by
  induction h with
  | nil =>
    intro vs σ H Q hl q
    cases vs with
    | nil => exact tWGs_of pgs_nil ⟨rfl, q⟩
    | cons v vs => cases hl
  | cons i hs hi hx hf hst ih =>
    intro vs σ H Q hl q
    cases vs with
    | nil => cases hl
    | cons v vs =>
      exact tWGs_of (pgs_cons (pg_name hN hi hx hf) tWGs_pgs hst) ⟨v, vs, rfl, ih vs _ H Q (by simpa using hl) q⟩
theorem parN_run {M0 H0 hd m} {D : Ends} {es : List Expr} {xs : List Ex} (h : SEs X W es xs) : ∀ (is : List Nat) M σ H env ph σ1 env1, StR (kx X) M0 H0 hd M m σ H env ph → StR (kx X) M0 H0 hd M m σ1 H env1 ph → PostS X W M0 H0 hd m D (parN is xs env env1 ph) →
    tWA X es σ H (fun vs H' => vs.length = is.length ∧ ∀ p o, H' p = none → D.nx (setAll σ1 is vs) (upd H' p o)) := by
  induction h with
  | nil =>
    intro is M σ H env ph σ1 env1 s s1 q
    cases is with
    | cons i is => exact q.elim
    | nil => exact tWA_of pa_nil ⟨rfl, fun p o hp => q M σ1 _ (s1.keep (Frame.new hp) (s1.rel.new hp))⟩
  | @cons e es' x xs' he hs hst ih =>
    intro is M σ H env ph σ1 env1 s s1 q
    cases is with
    | nil => exact q.elim
    | cons i is =>
      refine tWA_of (pa_cons tW_pe tWA_pa hst) (he.bindS s q fun val ph1 v H1 fr s2 rv ro q1 => ?_)
      have fin : ∀ {M' : Addr → Prop} {env2 : Env} {ph2 : PH}, StR (kx X) M0 H0 hd M' m σ H1 env ph2 → StR (kx X) M0 H0 hd M' m (σ1.set i (some v)) H1 env2 ph2 → PostS X W M0 H0 hd m D (parN is xs' env env2 ph2) →
          tWA X es' σ H1 (fun vs H' => (v :: vs).length = (i :: is).length ∧ ∀ p o, H' p = none → D.nx (setAll σ1 (i :: is) (v :: vs)) (upd H' p o)) := fun t t1 q2 po pins st I => by
        have := ih is _ _ _ _ _ _ _ t t1 q2 po pins st I
        refine thn this fun us st' ⟨vs, H', I', r', q'⟩ => ⟨vs, H', I', r', ?_⟩
        exact ⟨by simp [q'.1], q'.2⟩
      cases val with
      | own d =>
        obtain ⟨a1, rfl, n1, m1, c1⟩ := rv
        obtain ⟨ra, ca⟩ := ro d rfl a1 rfl
        exact fin (s.more fr ra ca n1 m1) (s1.setOwn (i := i) fr ra ca n1 m1) q1
      | d d => exact fin s2 ((s1.keep fr s2.rel).setD rv) q1
      | bor d => exact q1.elim
      | ref k => exact q1.elim
theorem st_parN {ts es : List Expr} {is : List Nat} {xs : List Ex} {kt k2 : Nat} {pt pt2 pos : Pos} (n : Nat) (hc : X.calm = true) (hN : X.N.Nodup) (hg : NGs X ts is) (he : SEs X W es xs) (hn : (assignEach ts X.env).length = n := by rfl) (hl : is.length = n := by rfl) (hsz : n ≤ sizeLine := by decide)
    (hst : (assignEach ts X.env).findIdx? (·.1) = none := by rfl) (hs : swapsWithSole [.Tuple ts kt pt] (.Tuple es k2 pt2) pos.line X.env = pure false := by rfl) (hw : swappedStores [.Tuple ts kt pt] (.Tuple es k2 pt2) X.env = pure none := by rfl)
    (h1 : (assignEach [.Tuple ts kt pt] X.env).map (·.2) = [assign (.Tuple ts kt pt) X.env] := by rfl) : SS X W (.Assign [.Tuple ts kt pt] (.Tuple es k2 pt2) pos) (sParN is xs) := ⟨fun M0 H0 hd M m σ H env ph s D q => tWS_of (ps_asg (pe_tup tWA_pa) tWG_pg hs hw h1) (by
  have := parN_run he is M σ H env ph σ env s s q
  intro po pins st I
  refine thn (this po pins st I) fun us st' ⟨vs, H', I', r', q'⟩ => ⟨vs, H', I', r', ?_⟩
  refine ⟨by rw [q'.1, hl]; exact hsz, fun p hp => ?_⟩
  exact tWG_of (pg_tup hc tWGs_pgs hn hst) ⟨p, vs, rfl, .inl (.inl upd_same), by rw [q'.1, hl], ngs_run hN hg vs σ _ _ q'.1 (q'.2 p _ hp)⟩)⟩
end
end Pyp

/-! How the words are read. -/
namespace Pyp
open PySem L2
@[simp] theorem eVar_s (i : Nat) (env : Env) (ph : PH) : eVar i env ph = (match env[i]? with
  | some (some v) => .ok v.read ph
  | _ => .bad) := rfl
@[simp] theorem eC_s (d : D) (z0 : Env) (ph : PH) : eC d z0 ph = (.ok (.d d) ph) := rfl
@[simp] theorem eBin_s (f : D → D → Option Val) (a b : Ex) (env : Env) (ph : PH) : eBin f a b env ph = ((a env ph).bind fun va ph1 => (b env ph1).bind fun vb ph2 => match va.cont ph2, vb.cont ph2 with
  | some x, some y => Res.of (f x y) ph2
  | _, _ => .bad) := rfl
@[simp] theorem tB_s (x : Ex) (env : Env) (ph : PH) : tB x env ph = ((x env ph).bind fun v ph1 => match v with
  | .d (.bl b) => .ok b ph1
  | _ => .bad) := rfl
@[simp] theorem tNot_s (t : Tx) (env : Env) (ph : PH) : tNot t env ph = ((t env ph).bind fun b ph1 => .ok (!b) ph1) := rfl
@[simp] theorem tAnd_s (t u : Tx) (env : Env) (ph : PH) : tAnd t u env ph = ((t env ph).bind fun b ph1 => if b = true then u env ph1 else .ok false ph1) := rfl
@[simp] theorem tOr_s (t u : Tx) (env : Env) (ph : PH) : tOr t u env ph = ((t env ph).bind fun b ph1 => if b = true then .ok true ph1 else u env ph1) := rfl
@[simp] theorem eAnd_s (x y : Ex) (env : Env) (ph : PH) : eAnd x y env ph = ((tB x env ph).bind fun b ph1 => if b = true then y env ph1 else .ok (.d (.bl false)) ph1) := rfl
@[simp] theorem eOr_s (x y : Ex) (env : Env) (ph : PH) : eOr x y env ph = ((tB x env ph).bind fun b ph1 => if b = true then .ok (.d (.bl true)) ph1 else y env ph1) := rfl
@[simp] theorem eNot_s (x : Ex) (env : Env) (ph : PH) : eNot x env ph = ((tB x env ph).bind fun b ph1 => .ok (.d (.bl (!b))) ph1) := rfl
@[simp] theorem eIf_s (t : Tx) (x y : Ex) (env : Env) (ph : PH) : eIf t x y env ph = ((t env ph).bind fun b ph1 => if b = true then x env ph1 else y env ph1) := rfl
@[simp] theorem aNil_s (z0 : Env) (ph : PH) : aNil  z0 ph = (.ok [] ph) := rfl
@[simp] theorem aCons_s (x : Ex) (xs : Ax) (env : Env) (ph : PH) : aCons x xs env ph = ((x env ph).bind fun v ph1 => (xs env ph1).bind fun vs ph2 => .ok (v :: vs) ph2) := rfl
@[simp] theorem eTup_s (xs : Ax) (env : Env) (ph : PH) : eTup xs env ph = ((xs env ph).bind fun vs ph1 => match dats vs with
  | some ds => if ds.length ≤ lim then .ok (.d (.tup ds)) ph1 else .bad
  | none => .bad) := rfl
@[simp] theorem eLst_s (xs : Ax) (env : Env) (ph : PH) : eLst xs env ph = ((xs env ph).bind fun vs ph1 => match dats vs with
  | some ds => if ds.length ≤ lim then .ok (.own (.lst ds)) ph1 else .bad
  | none => .bad) := rfl
@[simp] theorem sSeq_s (s t : Sx) (env : Env) (ph : PH) : sSeq s t env ph = ((s env ph).bind t) := rfl
@[simp] theorem sNx_s (env : Env) (ph : PH) : sNx  env ph = (.nx env ph) := rfl
@[simp] theorem sBk_s (env : Env) (ph : PH) : sBk  env ph = (.bk env ph) := rfl
@[simp] theorem sCt_s (env : Env) (ph : PH) : sCt  env ph = (.ct env ph) := rfl
@[simp] theorem sBad_s (z0 : Env) (z1 : PH) : sBad  z0 z1 = (.bad) := rfl
@[simp] theorem sDrop_s (x : Ex) (env : Env) (ph : PH) : sDrop x env ph = ((x env ph).bindS env fun _ ph1 => .nx env ph1) := rfl
@[simp] theorem sRet_s (x : Ex) (env : Env) (ph : PH) : sRet x env ph = ((x env ph).bindS env fun v ph1 => match retV v with
  | some w => .ret w ph1
  | none => .bad) := rfl
@[simp] theorem sRetN_s (z0 : Env) (ph : PH) : sRetN  z0 ph = (.ret (.d .non) ph) := rfl
@[simp] theorem sIf_s (t : Tx) (x y : Sx) (env : Env) (ph : PH) : sIf t x y env ph = ((t env ph).bindS env fun b ph1 => if b = true then x env ph1 else y env ph1) := rfl
@[simp] theorem sSet_s (i : Nat) (x : Ex) (env : Env) (ph : PH) : sSet i x env ph = ((x env ph).bindS env fun v ph1 => match v.dat with
  | some d => .nx (env.set i (some (.d d))) ph1
  | none => .bad) := rfl
@[simp] theorem sOwn_s (i : Nat) (x : Ex) (env : Env) (ph : PH) : sOwn i x env ph = ((x env ph).bindS env fun v ph1 => match v with
  | .own d => .nx (env.set i (some (.own d))) ph1
  | _ => .bad) := rfl
@[simp] theorem runF_s (n : Nat) (body : Sx) (args : List Val) (ph : PH) : runF n body args ph = (match body (args.map some ++ List.replicate (n - args.length) none) ph with
  | .ret v ph' => .ok v ph'
  | .nx _ ph' => .ok (.d .non) ph'
  | .exc c fs _ ph' => .exc c fs ph'
  | _ => .bad) := rfl
@[simp] theorem eCall_s (f : Fn) (xs : Ax) (env : Env) (ph : PH) : eCall f xs env ph = ((xs env ph).bind fun vs ph1 => match argsOf vs with
  | some as => f as ph1
  | none => .bad) := rfl
@[simp] theorem gN_s (i : Nat) (d : D) (env : Env) : gN i d env = (some (env.set i (some (.d d)))) := rfl
@[simp] theorem gsNil_s (ds : List D) (env : Env) : gsNil  ds env = (match ds with
  | [] => some env
  | _ => none) := rfl
@[simp] theorem gsCons_s (g : Gx) (gs : Gsx) (ds : List D) (env : Env) : gsCons g gs ds env = (match ds with
  | d :: ds => (g d env).bind fun env1 => gs ds env1
  | [] => none) := rfl
@[simp] theorem gT_s (n : Nat) (gs : Gsx) (d : D) (env : Env) : gT n gs d env = (match d with
  | .tup ds => if ds.length = n then gs ds env else none
  | .lst ds => if ds.length = n then gs ds env else none
  | _ => none) := rfl
@[simp] theorem sAsg_s (g : Gx) (x : Ex) (env : Env) (ph : PH) : sAsg g x env ph = ((x env ph).bindS env fun v ph1 => match v.dat.bind fun d => g d env with
  | some env1 => .nx env1 ph1
  | none => .bad) := rfl
@[simp] theorem iSeqX_s (b : Bool) (x : Ex) (env : Env) (ph : PH) : iSeqX b x env ph = ((x env ph).bind fun v ph1 => Res.of ((v.wlk b).bind seqD) ph1) := rfl
@[simp] theorem iEnumX_s (b : Bool) (xs : Ax) (env : Env) (ph : PH) : iEnumX b xs env ph = ((xs env ph).bind fun vs ph1 => match vs with
  | [v] => Res.of (((v.wlk b).bind seqD).map (enumD 0)) ph1
  | _ => .bad) := rfl
@[simp] theorem iZipX_s (b : Bool) (xs : Ax) (env : Env) (ph : PH) : iZipX b xs env ph = ((xs env ph).bind fun vs ph1 => match vs with
  | [v, w] => match (v.wlk b).bind seqD, (w.wlk b).bind seqD with
    | some ds, some es => .ok (zipD ds es) ph1
    | _, _ => .bad
  | _ => .bad) := rfl
@[simp] theorem iRng1X_s (xs : Ax) (env : Env) (ph : PH) : iRng1X xs env ph = ((xs env ph).bind rngE1) := rfl
@[simp] theorem iRng2X_s (xs : Ax) (env : Env) (ph : PH) : iRng2X xs env ph = ((xs env ph).bind rngE2) := rfl
@[simp] theorem iRng3X_s (xs : Ax) (env : Env) (ph : PH) : iRng3X xs env ph = ((xs env ph).bind rngE3) := rfl
@[simp] theorem sFor_s (g : Gx) (it : Ix) (b : Sx) (env : Env) (ph : PH) : sFor g it b env ph = ((it env ph).bindS env fun ds ph1 => forL g b ds env ph1) := rfl
@[simp] theorem tYesX_s (z0 : Env) (ph : PH) : tYesX  z0 ph = (.ok true ph) := rfl
@[simp] theorem eComp_s (own : List Nat) (g : Gx) (it : Ix) (t : Tx) (x : Ex) (env : Env) (ph : PH) : eComp own g it t x env ph = ((it env ph).bind fun ds ph1 => (compL g t x (wipeE env own) ds [] ph1).bind fun out ph2 => .ok (.own (.lst out)) ph2) := rfl
@[simp] theorem eNeg_s (x : Ex) (env : Env) (ph : PH) : eNeg x env ph = ((x env ph).bind fun v ph1 => match v with
  | .d (.int i) => .ok (.d (.int (-i))) ph1
  | _ => .bad) := rfl
@[simp] theorem eChain_s (f g : D → D → Option Val) (a b c : Ex) (env : Env) (ph : PH) : eChain f g a b c env ph = ((a env ph).bind fun va ph1 => (b env ph1).bind fun vb ph2 => match va, vb with
  | .d x, .d y => match f x y with
    | some (.d (.bl true)) => (c env ph2).bind fun vc ph3 => match vc.cont ph3 with
      | some z => Res.of (g y z) ph3
      | _ => .bad
    | some (.d (.bl false)) => .ok (.d (.bl false)) ph2
    | _ => .bad
  | _, _ => .bad) := rfl
@[simp] theorem pNo_s (z0 : Env) (ph : PH) : pNo  z0 ph = (.ok none ph) := rfl
@[simp] theorem pAt_s (x : Ex) (env : Env) (ph : PH) : pAt x env ph = ((x env ph).bind fun v ph1 => match v with
  | .d (.int i) => .ok (some i) ph1
  | _ => .bad) := rfl
@[simp] theorem eCut_s (a : Ex) (lo hi : Px) (env : Env) (ph : PH) : eCut a lo hi env ph = ((a env ph).bind fun v ph1 => (lo env ph1).bind fun l ph2 => (hi env ph2).bind fun h ph3 => match v.cont ph3 with
  | some d => Res.of (dCut d l h) ph3
  | none => .bad) := rfl
@[simp] theorem eB_s (f : List D → Option Val) (xs : Ax) (env : Env) (ph : PH) : eB f xs env ph = ((xs env ph).bind fun vs ph1 => match conts ph1 vs with
  | some ds => Res.of (f ds) ph1
  | none => .bad) := rfl
@[simp] theorem eIsi_s (ts : List Ty) (x : Ex) (env : Env) (ph : PH) : eIsi ts x env ph = ((x env ph).bind fun v ph1 => match v.cont ph1 with
  | some d => bif noDic d then .ok (.d (.bl (ts.any fun t => isTy t d))) ph1 else .bad
  | none => .bad) := rfl
@[simp] theorem eSortU_s (x : Ex) (env : Env) (ph : PH) : eSortU x env ph = ((x env ph).bind fun v ph1 => match v.cont ph1 with
  | some d => Res.of (dSortU d) ph1
  | none => .bad) := rfl
@[simp] theorem eD_s (f : D → Option Val) (x : Ex) (env : Env) (ph : PH) : eD f x env ph = ((x env ph).bind fun v ph1 => match v.cont ph1 with
  | some d => Res.of (f d) ph1
  | none => .bad) := rfl
@[simp] theorem sPut_s (i : Nat) (ix x : Ex) (env : Env) (ph : PH) : sPut i ix x env ph = (match env[i]? with
  | some (some (.own (.lst ds))) => (x env ph).bindS env fun v ph1 => (ix env ph1).bindS env fun k ph2 => match v.dat, k with
    | some d, .d (.int k) => match ixN ds.length k with
      | some j => .nx (env.set i (some (.own (.lst (ds.set j d))))) ph2
      | none => .bad
    | _, _ => .bad
  | some (some (.ref n)) => (x env ph).bindS env fun v ph1 => (ix env ph1).bindS env fun k ph2 => match v.dat, k, ph2[n]? with
    | some d, .d (.int k), some (.lst ds) => match ixN ds.length k with
      | some j => .nx env (ph2.set n (.lst (ds.set j d)))
      | none => .bad
    | _, _, _ => .bad
  | _ => .bad) := rfl
@[simp] theorem eCallC_s (f : Fn) (x : Ex) (env : Env) (ph : PH) : eCallC f x env ph = ((x env ph).bind fun v ph1 => match v with
  | .own d => popC (f [.ref ph1.length] (ph1 ++ [d]))
  | _ => .bad) := rfl
@[simp] theorem sCell_s (i : Nat) (b : Sx) (env : Env) (ph : PH) : sCell i b env ph = (match env[i]? with
  | some (some (.own x)) => match b (env.set i (some (.ref ph.length))) (ph ++ [x]) with
    | .ret v ph' => if popV v = true then .ret v ph'.dropLast else .bad
    | _ => .bad
  | _ => .bad) := rfl
@[simp] theorem gTS_s (n : Nat) (gs : Gsx) (d : D) (env : Env) : gTS n gs d env = (match d with
  | .tup ds => if n ≤ ds.length then gs (ds.take n ++ [.lst (ds.drop n)]) env else none
  | _ => none) := rfl
@[simp] theorem sRaise_s (c f : Str) (x : Ex) (env : Env) (ph : PH) : sRaise c f x env ph = ((x env ph).bindS env fun v ph1 => match v.dat with
  | some d => .exc c [(f, d)] env ph1
  | none => .bad) := rfl
@[simp] theorem sTryF_s (c f : Str) (tag : List Nat) (b : Sx) (env : Env) (ph : PH) : sTryF c f tag b env ph = (match b env ph with
  | .exc c' fs _ ph2 => tryF c f tag c' fs ph2
  | o => o) := rfl
@[simp] theorem sFz_s (i : Nat) (s : Sx) (env : Env) (ph : PH) : sFz i s env ph = (match env[i]? with
  | some (some (.own x)) => s (env.set i (some (.d x))) ph
  | _ => s env ph) := rfl
@[simp] theorem sVar_s (i : Nat) (x : Ex) (env : Env) (ph : PH) : sVar i x env ph = ((x env ph).bindS env (varEnd i env)) := rfl
@[simp] theorem sPar_s (is : List Nat) (xs : Ax) (env : Env) (ph : PH) : sPar is xs env ph = ((xs env ph).bindS env fun vs ph1 => match is, dats vs with
  | [i, j], some [d, e] => .nx ((env.set i (some (.d d))).set j (some (.d e))) ph1
  | [i, j, k], some [d, e, f] => .nx (((env.set i (some (.d d))).set j (some (.d e))).set k (some (.d f))) ph1
  | _, _ => .bad) := rfl
@[simp] theorem eOrT_s (x y : Ex) (env : Env) (ph : PH) : eOrT x y env ph = ((x env ph).bind fun v ph1 => orEnd v y env ph1) := rfl
@[simp] theorem rngE1_s (j : Int) (ph : PH) : rngE1 [.d (.int j)] ph = bif okR j then .ok (rngD 0 j.toNat) ph else .bad := Eq.trans rfl rfl
@[simp] theorem rngE2_s (i j : Int) (ph : PH) : rngE2 [.d (.int i), .d (.int j)] ph = bif okR i && okR j then .ok (rngD i (j - i).toNat) ph else .bad := Eq.trans rfl rfl
@[simp] theorem rngE3_s (i j k : Int) (ph : PH) : rngE3 [.d (.int i), .d (.int j), .d (.int k)] ph = bif okR i && okR j && (k == -1) then .ok (rngDn i (i - j).toNat) ph else .bad := Eq.trans rfl rfl
theorem mul_r {i j : Int} (h : 0 ≤ j) (h2 : j < 18446744073709551616) : mulOk i j = true := by
  unfold mulOk
  rw [Bool.or_eq_true, decide_eq_true_eq, decide_eq_true_eq]
  exact .inr (by omega)
theorem mul_l {i j : Int} (h : 0 ≤ i) (h2 : i < 18446744073709551616) : mulOk i j = true := by
  unfold mulOk
  rw [Bool.or_eq_true, decide_eq_true_eq, decide_eq_true_eq]
  exact .inl (by omega)
theorem div_ok {j : Int} (h : 0 < j) (h2 : j < 1073741824) : divOk j = true := by
  unfold divOk
  rw [Bool.and_eq_true, decide_eq_true_eq, decide_eq_true_eq]
  exact ⟨h, by omega⟩
section
variable {x : D} {n : Nat} {ph : PH} {v : Val} {vs : List Val} {i j : Int} {b c : Bool} {ds es : List D}
@[simp] theorem read_d : (Val.d x).read = .d x := rfl
@[simp] theorem read_own : (Val.own x).read = .bor x := rfl
@[simp] theorem read_bor : (Val.bor x).read = .bor x := rfl
@[simp] theorem read_ref : (Val.ref n).read = .ref n := rfl
@[simp] theorem cont_d : (Val.d x).cont ph = some x := rfl
@[simp] theorem cont_own : (Val.own x).cont ph = some x := rfl
@[simp] theorem cont_bor : (Val.bor x).cont ph = some x := rfl
@[simp] theorem cont_ref : (Val.ref n).cont ph = ph[n]? := rfl
@[simp] theorem dat_d : (Val.d x).dat = some x := rfl
@[simp] theorem dat_own : (Val.own x).dat = some x := rfl
@[simp] theorem conts_nil : conts ph [] = some [] := rfl
@[simp] theorem conts_cons : conts ph (v :: vs) = (match v.cont ph, conts ph vs with
  | some d, some ds => some (d :: ds)
  | _, _ => none) := rfl
@[simp] theorem dats_nil : dats [] = some [] := rfl
@[simp] theorem dats_cons : dats (v :: vs) = (match v.dat, dats vs with
  | some d, some ds => some (d :: ds)
  | _, _ => none) := rfl
@[simp] theorem argsOf_nil : argsOf [] = some [] := rfl
@[simp] theorem argsOf_cons : argsOf (v :: vs) = (match argOf v, argsOf vs with
  | some y, some ys => some (y :: ys)
  | _, _ => none) := rfl
@[simp] theorem argOf_d : argOf (.d x) = some (.d x) := rfl
@[simp] theorem argOf_own : argOf (.own x) = some (.d x) := rfl
@[simp] theorem argOf_ref : argOf (.ref n) = some (.ref n) := rfl
@[simp] theorem retV_d : retV (.d x) = some (.d x) := rfl
@[simp] theorem retV_own : retV (.own x) = some (.own x) := rfl
@[simp] theorem see_d : (Val.d x).see = some x := rfl
@[simp] theorem see_own : (Val.own x).see = some x := rfl
@[simp] theorem see_bor : (Val.bor x).see = some x := rfl
@[simp] theorem wlk_t : Val.wlk true v = v.dat := rfl
@[simp] theorem wlk_f : Val.wlk false v = v.see := rfl
@[simp] theorem seqD_tup : seqD (.tup ds) = some ds := rfl
@[simp] theorem seqD_lst : seqD (.lst ds) = some ds := rfl
@[simp] theorem dAdd_int : dAdd (.int i) (.int j) = some (.d (.int (i + j))) := rfl
@[simp] theorem dSub_int : dSub (.int i) (.int j) = some (.d (.int (i - j))) := rfl
@[simp] theorem dMul_int : dMul (.int i) (.int j) = if mulOk i j = true then some (.d (.int (i * j))) else none := Eq.trans rfl rfl
@[simp] theorem dDiv_int : dDiv (.int i) (.int j) = if divOk j = true then some (.d (.int (i / j))) else none := Eq.trans rfl rfl
@[simp] theorem dMod_int : dMod (.int i) (.int j) = if 0 < j then some (.d (.int (i % j))) else none := Eq.trans rfl rfl
@[simp] theorem dLt_int : dLt (.int i) (.int j) = some (.d (.bl (decide (i < j)))) := rfl
@[simp] theorem dLe_int : dLe (.int i) (.int j) = some (.d (.bl (decide (i ≤ j)))) := rfl
@[simp] theorem dGt_int : dGt (.int i) (.int j) = some (.d (.bl (decide (j < i)))) := rfl
@[simp] theorem dGe_int : dGe (.int i) (.int j) = some (.d (.bl (decide (j ≤ i)))) := rfl
@[simp] theorem dEq_int : dEq (.int i) (.int j) = some (.d (.bl (i == j))) := rfl
@[simp] theorem dNe_int : dNe (.int i) (.int j) = some (.d (.bl (!(i == j)))) := rfl
@[simp] theorem dEq_bl : dEq (.bl b) (.bl c) = some (.d (.bl (b == c))) := rfl
@[simp] theorem dNe_bl : dNe (.bl b) (.bl c) = some (.d (.bl (!(b == c)))) := rfl
@[simp] theorem bLen_tup : bLen [.tup ds] = some (.d (.int ds.length)) := rfl
@[simp] theorem bLen_lst : bLen [.lst ds] = some (.d (.int ds.length)) := rfl
@[simp] theorem bLen_fz {ns : List Int} : bLen [.fz ns] = some (.d (.int ns.length)) := rfl
@[simp] theorem bAbs_int : bAbs [.int i] = some (.d (.int (if i < 0 then -i else i))) := rfl
@[simp] theorem bInt_int : bInt [.int i] = some (.d (.int i)) := rfl
@[simp] theorem bInt_bl : bInt [.bl b] = some (.d (.int (if b then 1 else 0))) := rfl
@[simp] theorem bTup_tup : bTup [.tup ds] = some (.d (.tup ds)) := rfl
@[simp] theorem bTup_lst : bTup [.lst ds] = some (.d (.tup ds)) := rfl
@[simp] theorem bLst_tup : bLst [.tup ds] = some (.own (.lst ds)) := rfl
@[simp] theorem bLst_lst : bLst [.lst ds] = some (.own (.lst ds)) := rfl
@[simp] theorem bMax_int : bMax [.int i, .int j] = some (.d (.int (if j > i then j else i))) := rfl
@[simp] theorem bMin_int : bMin [.int i, .int j] = some (.d (.int (if j < i then j else i))) := rfl
@[simp] theorem dCut_tup {lo hi : Option Int} : dCut (.tup ds) lo hi = some (.d (.tup (cutL ds lo hi))) := rfl
@[simp] theorem dCut_lst {lo hi : Option Int} : dCut (.lst ds) lo hi = some (.own (.lst (cutL ds lo hi))) := rfl
@[simp] theorem dCut_fz {ns : List Int} {lo hi : Option Int} : dCut (.fz ns) lo hi = some (.own (.lst ((cutL ns lo hi).map .int))) := rfl
@[simp] theorem dRev_tup : dRev (.tup ds) = some (.d (.tup ds.reverse)) := rfl
@[simp] theorem dRev_lst : dRev (.lst ds) = some (.own (.lst ds.reverse)) := rfl
@[simp] theorem dIx_tup : dIx (.tup ds) (.int i) = (atI ds i).map .d := rfl
@[simp] theorem dIx_lst : dIx (.lst ds) (.int i) = (atI ds i).map .d := rfl
@[simp] theorem dIx_fz {ns : List Int} : dIx (.fz ns) (.int i) = (atI ns i).map fun n => .d (.int n) := rfl
@[simp] theorem popV_d : popV (.d x) = true := rfl
@[simp] theorem popV_own : popV (.own x) = true := rfl
@[simp] theorem popC_ok : popC (.ok v ph) = if popV v = true then .ok v ph.dropLast else .bad := rfl
@[simp] theorem varEnd_own {env : Env} : varEnd n env (.own x) ph = .nx (env.set n (some (.own x))) ph := rfl
@[simp] theorem varEnd_d {env : Env} : varEnd n env (.d x) ph = .nx (env.set n (some (.d x))) ph := rfl
@[simp] theorem wipeE_nil {env : Env} : wipeE env [] = env := rfl
@[simp] theorem wipeE_cons {env : Env} {k : Nat} {ks : List Nat} : wipeE env (k :: ks) = (wipeE env ks).set k none := rfl
@[simp] theorem bAll_lst : bAll [.lst ds] = (bls ds).map fun bs => .d (.bl (bs.all id)) := rfl
@[simp] theorem forL_nil {g : Gx} {b : Sx} {env : Env} : forL g b [] env ph = .nx env ph := rfl
theorem forL_cons {g : Gx} {b : Sx} {env : Env} : forL g b (x :: ds) env ph = (match g x env with
  | some env1 => match b env1 ph with
    | .nx env2 ph2 => forL g b ds env2 ph2
    | .ct env2 ph2 => forL g b ds env2 ph2
    | .bk env2 ph2 => .nx env2 ph2
    | o => o
  | none => .bad) := rfl
@[simp] theorem compL_nil {g : Gx} {t : Tx} {e : Ex} {env : Env} : compL g t e env [] ds ph = .ok ds ph := rfl
theorem compL_cons {g : Gx} {t : Tx} {e : Ex} {env : Env} : compL g t e env (x :: ds) es ph = (match g x env with
  | some env1 => match t env1 ph with
    | .ok true ph1 => match e env1 ph1 with
      | .ok v ph2 => match v.dat with
        | some y => if es.length < lim then compL g t e env ds (es ++ [y]) ph2 else .bad
        | none => .bad
      | _ => .bad
    | .ok false ph1 => compL g t e env ds es ph1
    | _ => .bad
  | none => .bad) := rfl
@[simp] theorem at0 {a : D} : atI (a :: ds) 0 = some a := by simp [atI, ixN]
@[simp] theorem at1 {a a' : D} : atI (a :: a' :: ds) 1 = some a' := by
  unfold atI ixN
  rw [if_pos (by decide), if_pos (by simp; omega)]; rfl
@[simp] theorem at2 {a a' a'' : D} : atI (a :: a' :: a'' :: ds) 2 = some a'' := by
  unfold atI ixN
  rw [if_pos (by decide), if_pos (by simp; omega)]; rfl
end

end Pyp

/-! How the later words are read. -/
namespace Pyp
open PySem L2
@[simp] theorem parEnd_s (i j : Nat) (env : Env) (v w : Val) (ph : PH) : parEnd i j env v w ph = (varEnd i env v ph).bind fun env1 ph1 => varEnd j env1 w ph1 := rfl
@[simp] theorem sParV_s (i j : Nat) (x y : Ex) (env : Env) (ph : PH) : sParV i j x y env ph = ((x env ph).bindS env fun v ph1 => (y env ph1).bindS env fun w ph2 => parEnd i j env v w ph2) := rfl
@[simp] theorem sAppPop_s (i j : Nat) (xs : Ax) (env : Env) (ph : PH) : sAppPop i j xs env ph = (match env[i]?, env[j]? with
  | some (some (.own (.lst ds))), some (some (.own (.lst es))) => (xs env ph).bindS env fun vs ph1 => match dats vs with
    | some [.int z] => appPop i j ds es z env ph1
    | _ => .bad
  | _, _ => .bad) := rfl
@[simp] theorem eLRg1_s (x : Ex) (env : Env) (ph : PH) : eLRg1 x env ph = (x env ph).bind lstRg1 := rfl
@[simp] theorem eLRg2_s (x y : Ex) (env : Env) (ph : PH) : eLRg2 x y env ph = (x env ph).bind fun v ph1 => (y env ph1).bind fun w ph2 => lstRg2 v w ph2 := rfl
@[simp] theorem lstRg1_s (j : Int) (ph : PH) : lstRg1 (.d (.int j)) ph = bif okR j then .ok (.own (.lst (rngD 0 j.toNat))) ph else .bad := Eq.trans rfl rfl
@[simp] theorem lstRg2_s (i j : Int) (ph : PH) : lstRg2 (.d (.int i)) (.d (.int j)) ph = bif okR i && okR j then .ok (.own (.lst (rngD i (j - i).toNat))) ph else .bad := Eq.trans rfl rfl
@[simp] theorem dSortI_s (ds : List D) : dSortI (.lst ds) = (intsD ds).map fun ns => .own (.lst ((sortI ns).map .int)) := rfl
@[simp] theorem eComp2_s (own own1 : List Nat) (g : Gx) (it : Ix) (t : Tx) (g1 : Gx) (it1 : Ix) (t1 : Tx) (x : Ex) (env : Env) (ph : PH) : eComp2 own own1 g it t g1 it1 t1 x env ph = ((it env ph).bind fun ds ph1 => (compL2 g t it1 own1 g1 t1 x (wipeE env own) ds [] ph1).bind fun out ph2 => .ok (.own (.lst out)) ph2) := rfl
@[simp] theorem compL2_nil (g : Gx) (t : Tx) (it1 : Ix) (own1 : List Nat) (g1 : Gx) (t1 : Tx) (x : Ex) (env : Env) (acc : List D) (ph : PH) : compL2 g t it1 own1 g1 t1 x env [] acc ph = .ok acc ph := rfl
theorem compL2_cons (g : Gx) (t : Tx) (it1 : Ix) (own1 : List Nat) (g1 : Gx) (t1 : Tx) (x : Ex) (env : Env) (d : D) (ds acc : List D) (ph : PH) : compL2 g t it1 own1 g1 t1 x env (d :: ds) acc ph = (match g d env with
    | some env1 => (t env1 ph).only fun b ph1 => bif b then (it1 env1 ph1).only fun ds1 ph2 => (compL g1 t1 x (wipeE env1 own1) ds1 acc ph2).only fun acc2 ph3 => compL2 g t it1 own1 g1 t1 x env ds acc2 ph3
        else compL2 g t it1 own1 g1 t1 x env ds acc ph1
    | none => .bad) := rfl
@[simp] theorem sParN_s (is : List Nat) (xs : List Ex) (env : Env) (ph : PH) : sParN is xs env ph = parN is xs env env ph := rfl
@[simp] theorem parN_nil (env env1 : Env) (ph : PH) : parN [] [] env env1 ph = .nx env1 ph := rfl
@[simp] theorem parN_cons (i : Nat) (is : List Nat) (x : Ex) (xs : List Ex) (env env1 : Env) (ph : PH) : parN (i :: is) (x :: xs) env env1 ph = ((x env ph).bindS env fun v ph1 => (varEnd i env1 v ph1).bind fun env2 ph2 => parN is xs env env2 ph2) := rfl
end Pyp

/-! A comprehension within a comprehension. -/
namespace Pyp
open PySem PySem.Spec PyProof.Rows L2
theorem lookup_map_free (P : Str → NameKind → Bool) (hP : ∀ n k, P n k = true → k = .free) : ∀ {names : List (Str × NameKind)} {x : Str}, (names.lookup x = some .cell ∨ names.lookup x = some .free) →
    ((names.map fun y => if P y.1 y.2 = true then (y.1, NameKind.cell) else (y.1, y.2)).lookup x = some .cell ∨ (names.map fun y => if P y.1 y.2 = true then (y.1, NameKind.cell) else (y.1, y.2)).lookup x = some .free)
  | [], x, h => by simp at h
  | (n, k) :: rest, x, h => by
    rw [List.map_cons]
    by_cases hc : P n k = true
    · rw [if_pos hc]
      by_cases hx : (x == n) = true
      · left; simp only [List.lookup, hx]
      · have hx' : (x == n) = false := by simpa using hx
        simp only [List.lookup, hx'] at h ⊢
        exact lookup_map_free P hP h
    · rw [if_neg hc]
      by_cases hx : (x == n) = true
      · simp only [List.lookup, hx] at h ⊢
        exact h
      · have hx' : (x == n) = false := by simpa using hx
        simp only [List.lookup, hx'] at h ⊢
        exact lookup_map_free P hP h
theorem lookup_relabel_free {scope : Scope} {env : PySem.Env} {x : Str} (h : scope.names.lookup x = some .cell ∨ scope.names.lookup x = some .free) : (relabel scope env).names.lookup x = some .cell ∨ (relabel scope env).names.lookup x = some .free :=
  lookup_map_free (fun n k => k == .free && env.scope.kind == .function && env.kindOf n == some .cell) (fun n k e => by
    simp only [Bool.and_eq_true] at e
    exact eq_of_beq e.1.1) h
theorem blkOk_nest {N : List Str} {scope sc2 : Scope} {env : PySem.Env} {own : List (Str × Nat)} (h : blkC N scope sc2 own = true) : BlkOk N (relabel scope env) sc2 own :=
  let b := blkOk_by h
  ⟨b.kind, b.uniq, b.ix, fun y hy e => lookup_relabel_free (b.free y hy e), b.own⟩
end Pyp

/-! Dicts whose keys are tuples: what they are in the heap. -/
namespace Pyp
open PySem PySem.Spec PyProof.Rows L2
section
variable {X : Cx} {pins : List (Addr × Obj)} {σ : L2.St} {H : Hp} {s : Shared} {M : Addr → Prop}
mutual
theorem rep_nested (I : Inv X pins σ H s) : ∀ (d : D) (v : V) (u : Value) (k : NestedKey), Rep (kx X) M H d v → nk d = some k → RelV v u → NestedIs s.heap k u
  | .non, v, u, k, r, e, ru => by
    rw [nk] at e; cases e
    rw [Rep] at r; subst r
    obtain rfl : u = .none := ru
    exact .none
  | .bl b, v, u, k, r, e, ru => by
    rw [nk] at e; cases e
    rw [Rep] at r; subst r
    obtain rfl : u = .bool b := ru
    exact .bool rfl
  | .int i, v, u, k, r, e, ru => by
    rw [nk] at e; cases e
    rw [Rep] at r; subst r
    obtain ⟨t, rfl⟩ := (show ∃ t, u = Value.int i t from ru)
    exact .int _ _
  | .str x, v, u, k, r, e, ru => by
    rw [nk] at e; cases e
    rw [Rep] at r; subst r
    obtain ⟨t, rfl⟩ := (show ∃ t, u = Value.str ⟨x.toArray⟩ t from ru)
    exact .text _ _
  | .tup ds, v, u, k, r, e, ru => by
    rw [nk] at e
    cases hk : nks ds with
    | none => rw [hk] at e; cases e
    | some ks =>
      rw [hk] at e
      cases e
      rw [Rep] at r
      obtain ⟨a, xs, rfl, t, rs⟩ := r
      obtain rfl : u = .ref a := ru
      obtain ⟨its, rv, ⟨o, h1, h2, n, h3⟩, _⟩ := I.tuple (show SqT X.K H a xs from t.sq)
      exact .tup h1 h2 h3 (by simpa using reps_nested I ds xs its ks rs hk rv)
  | .lst ds, v, u, k, r, e, ru => by rw [nk] at e <;> first | cases e | (intros; contradiction)
  | .dic ks vs, v, u, k, r, e, ru => by rw [nk] at e <;> first | cases e | (intros; contradiction)
  | .fz ns, v, u, k, r, e, ru => by rw [nk] at e <;> first | cases e | (intros; contradiction)
theorem reps_nested (I : Inv X pins σ H s) : ∀ (ds : List D) (xs : List V) (us : List Value) (ks : List NestedKey), Reps (kx X) M H ds xs → nks ds = some ks → Vals xs us → NestedAll s.heap ks us
  | [], xs, us, ks, r, e, ru => by
    rw [nks] at e; cases e
    rw [Reps] at r; subst r
    cases ru
    exact .nil
  | d :: ds, xs, us, ks, r, e, ru => by
    rw [nks] at e
    rw [Reps] at r
    obtain ⟨v, vs, rfl, r1, r2⟩ := r
    cases h1 : nk d with
    | none => rw [h1] at e; cases e
    | some k1 =>
      cases h2 : nks ds with
      | none => rw [h1, h2] at e; cases e
      | some ks1 =>
        rw [h1, h2] at e
        cases e
        cases ru with
        | cons q qs => exact .cons (rep_nested I d v _ k1 r1 h1 q) (reps_nested I ds vs _ ks1 r2 h2 qs)
end
theorem keyN_is (I : Inv X pins σ H s) {d : D} {v : V} {k : NestedKey} (r : Rep (kx X) M H d v) (e : keyN d = some k) : ∃ b, v = .ref b ∧ (nestedKind X.prog X.w).is s.heap k b := by
  unfold keyN at e
  cases h : nk d with
  | none => rw [h] at e; cases e
  | some k' =>
    rw [h] at e
    cases k' with
    | tup ks =>
      have e' : (if (NestedKey.tup ks).depth ≤ 8 then some (NestedKey.tup ks) else none) = some k := e
      split at e'
      · rename_i hd
        cases e'
        cases d with
        | tup ds =>
          have r0 := r
          rw [Rep] at r
          obtain ⟨a, xs, rfl, t, rs⟩ := r
          exact ⟨a, rfl, rep_nested I _ _ (.ref a) _ r0 h rfl, hd⟩
        | non => rw [nk] at h; cases h
        | bl b => rw [nk] at h; cases h
        | int b => rw [nk] at h; cases h
        | str b => rw [nk] at h; cases h
        | lst b => rw [nk] at h <;> first | cases h | (intros; contradiction)
        | dic b c => rw [nk] at h <;> first | cases h | (intros; contradiction)
        | fz b => rw [nk] at h <;> first | cases h | (intros; contradiction)
      · cases e'
    | _ => cases e
/-- the dict of the heap -/
theorem dn_of (I : Inv X pins σ H s) {a : Addr} {xs : List (NestedKey × Addr × V)} {ks : List D} (e : DO X.w H a xs) (rk : Reps (kx X) M H ks (xs.map fun x => V.ref x.2.1)) (ek : ks.map keyN = xs.map (fun x => some x.1)) :
    xs.length ≤ sizeLine ∧ (a == sysModules) = false ∧ ∃ ys, Paired RelX xs ys ∧ s.heap.DictOfH (nestedKind X.prog X.w) a ys := by
  obtain ⟨o, e⟩ := e
  obtain ⟨⟨hz, hs, ys, pr, es, ep, h1, h2, h3, h4, h5⟩, _⟩ := I.hok a _ e
  refine ⟨hz, hs, ys, pr, o, es, ep, h1, h2, h3, h4, ?_, h5⟩
  have go : ∀ (xs : List (NestedKey × Addr × V)) (ys : List (NestedKey × Addr × Value)) (ks : List D), Paired RelX xs ys → Reps (kx X) M H ks (xs.map fun x => V.ref x.2.1) → ks.map keyN = xs.map (fun x => some x.1) → ∀ y ∈ ys, (nestedKind X.prog X.w).is s.heap y.1 y.2.1 := by
    intro xs ys ks pr
    induction pr generalizing ks with
    | nil => intro _ _ y h; cases h
    | @cons x y xs ys q t ih =>
      intro rk ek z hz
      cases ks with
      | nil => cases ek
      | cons d ds =>
        rw [List.map_cons] at rk
        rw [Reps] at rk
        obtain ⟨v, vs, e1, r1, r2⟩ := rk
        have e1' : V.ref x.2.1 = v ∧ xs.map (fun x => V.ref x.2.1) = vs := by simpa using e1
        rw [List.map_cons, List.map_cons] at ek
        have ek1 : keyN d = some x.1 ∧ ds.map keyN = xs.map (fun x => some x.1) := by simpa using ek
        rcases List.mem_cons.mp hz with rfl | hz
        · obtain ⟨b, eb, hb⟩ := keyN_is I r1 ek1.1
          rw [← e1'.1] at eb
          cases eb
          rw [← q.1, ← q.2.1]
          exact hb
        · exact ih ds (by rw [e1'.2]; exact r2) ek1.2 z hz
  exact go xs ys ks pr rk ek
/-- a new dict of the heap -/
theorem dn_new {P : Program} {w : World} {H' : Hp} {h' : Heap} {a : Addr} {xs : List (NestedKey × Addr × V)} {ys : List (NestedKey × Addr × Value)} (hz : xs.length ≤ sizeLine) (hs : (a == sysModules) = false) (pr : Paired RelX xs ys) (dd : h'.DictOfH (nestedKind P w) a ys) : ∃ o, ObjOk P w H' h' a (DicO w a xs o) := by
  obtain ⟨o, es, ep, h1, h2, h3, h4, _, h5⟩ := dd
  refine ⟨o, ⟨hz, hs, ys, pr, es, ep, h1, h2, h3, h4, h5⟩, ⟨o, h1⟩, fun g1 g2 p k => ?_⟩
  obtain ⟨hz, hs, ys, pr, es, ep, h1, h2, h3, h4, h5⟩ := p
  exact ⟨hz, hs, ys, pr, es, ep, k o h1, h2, h3, h4, h5⟩
def atX (xs : List (NestedKey × Addr × V)) (k : NestedKey) : Option V := (xs.find? fun x => decide (x.1 = k)).map (·.2.2)
theorem atX_val {xs : List (NestedKey × Addr × V)} {ys : List (NestedKey × Addr × Value)} (p : Paired RelX xs ys) (k : NestedKey) : RelO (atX xs k) ((atKey ys k).map (·.2)) := by
  induction p with
  | nil => exact True.intro
  | @cons x y xs ys q t ih =>
    unfold atX atKey at ih ⊢
    rw [List.find?_cons, List.find?_cons, ← q.1]
    by_cases h : x.1 = k
    · rw [decide_eq_true h]
      exact q.2.2
    · rw [decide_eq_false h]
      exact ih
/-- put in order -/
def putX (xs : List (NestedKey × Addr × V)) (k : NestedKey) (b : Addr) (v : V) : List (NestedKey × Addr × V) :=
  if (xs.any fun x => decide (x.1 = k)) = true then xs.map (fun x => if x.1 = k then (x.1, x.2.1, v) else x) else xs ++ [(k, b, v)]
theorem atX_any (xs : List (NestedKey × Addr × V)) (k : NestedKey) : (xs.any fun x => decide (x.1 = k)) = (atX xs k).isSome := by
  induction xs with
  | nil => rfl
  | cons x xs ih =>
    unfold atX at ih ⊢
    rw [List.any_cons, List.find?_cons]
    by_cases h : x.1 = k
    · rw [decide_eq_true h]; rfl
    · rw [decide_eq_false h, Bool.false_or]; exact ih
theorem put_pair {xs : List (NestedKey × Addr × V)} {ys : List (NestedKey × Addr × Value)} (p : Paired RelX xs ys) (k : NestedKey) (b : Addr) {v : V} {r : Value} (rv : RelV v r) : Paired RelX (putX xs k b v) (storedH ys k b r) := by
  have e : (xs.any fun x => decide (x.1 = k)) = (atKey ys k).isSome := by
    rw [atX_any, (atX_val p k).isSome_eq, Option.isSome_map]
  unfold putX storedH
  rw [e]
  split
  · rename_i hq
    clear e hq
    induction p with
    | nil => exact .nil
    | @cons x y xs ys q t ih =>
      rw [List.map_cons, List.map_cons]
      refine .cons ?_ ih
      unfold putAt
      by_cases h : x.1 = k
      · rw [if_pos h, if_pos (by rw [← q.1]; exact h)]
        exact ⟨q.1, q.2.1, rv⟩
      · rw [if_neg h, if_neg (by rw [← q.1]; exact h)]
        exact q
  · exact p.snoc ⟨rfl, rfl, rv⟩
theorem putX_len (xs : List (NestedKey × Addr × V)) (k : NestedKey) (b : Addr) (v : V) : (putX xs k b v).length ≤ xs.length + 1 := by
  unfold putX
  split <;> simp
end
end Pyp

/-! Dicts: reading. -/
namespace Pyp
open PySem PySem.Spec PyProof.Rows L2
def kindK (ks : List D) : Bool := ks.all fun k => (keyOf k).isSome
def kindN (ks : List D) : Bool := ks.all fun k => (keyN k).isSome
/-- the same key -/
def sameK (a b : D) : Bool := match keyOf a, keyOf b with
  | some x, some y => decide (x = y)
  | none, none => (match keyN a, keyN b with
    | some x, some y => decide (x = y)
    | _, _ => false)
  | _, _ => false
def fitK (ks : List D) (d : D) : Bool := match keyOf d with
  | some _ => kindK ks
  | none => kindN ks && (keyN d).isSome
def lookD : List D → List D → D → Option D
  | k :: ks, v :: vs, d => if sameK k d = true then some v else lookD ks vs d
  | _, _, _ => none
theorem keyOf_rep {K M H d v k} (r : Rep K M H d v) (e : keyOf d = some k) : v = kV k := by
  cases d with
  | int i => cases e; rw [Rep] at r; exact r
  | str x => cases e; rw [Rep] at r; exact r
  | _ => cases e
theorem nk_tup_keyOf {d : D} {k : NestedKey} (h : keyN d = some k) : keyOf d = none := by
  cases d with
  | int i =>
    unfold keyN at h
    rw [nk] at h
    cases h
  | str x =>
    unfold keyN at h
    rw [nk] at h
    cases h
  | _ => rfl
/-- a look-up among ints and texts -/
theorem look_k {K M H} {k : Key} {d : D} (ed : keyOf d = some k) : ∀ (ks vs : List D) (kvs : List (Key × V)), ks.map keyOf = kvs.map (fun p => some p.1) → Reps K M H vs (kvs.map (·.2)) →
    (∀ e, lookD ks vs d = some e → ∃ v, valV kvs k = some v ∧ Rep K M H e v) ∧ (lookD ks vs d = none → valV kvs k = none)
  | [], vs, [], _, r => by
    refine ⟨fun e h => ?_, fun _ => rfl⟩
    rw [lookD] at h <;> first | cases h | (intros; contradiction)
  | [], vs, p :: kvs, e, r => by cases e
  | k0 :: ks, vs, [], e, r => by cases e
  | k0 :: ks, vs, p :: kvs, e, r => by
    have e1 : keyOf k0 = some p.1 ∧ ks.map keyOf = kvs.map (fun p => some p.1) := by simpa using e
    cases vs with
    | nil => rw [Reps] at r; cases r
    | cons v vs =>
      rw [List.map_cons] at r
      rw [Reps] at r
      obtain ⟨x, xs, ex, r1, r2⟩ := r
      have ex' : p.2 = x ∧ kvs.map (·.2) = xs := by simpa using ex
      have hs : sameK k0 d = decide (p.1 = k) := by unfold sameK; rw [e1.1, ed]
      rw [lookD, hs]
      by_cases h : p.1 = k
      · rw [decide_eq_true h, if_pos rfl, valV_pos h]
        exact ⟨fun e q => by cases q; exact ⟨p.2, rfl, by rw [ex'.1]; exact r1⟩, fun q => nomatch q⟩
      · rw [decide_eq_false h, if_neg (by decide), valV_neg h]
        exact look_k ed ks vs kvs e1.2 (by rw [ex'.2]; exact r2)
/-- among tuples -/
theorem look_n {K M H} {k : NestedKey} {d : D} (ed : keyN d = some k) : ∀ (ks vs : List D) (xs : List (NestedKey × Addr × V)), ks.map keyN = xs.map (fun x => some x.1) → Reps K M H vs (xs.map (·.2.2)) →
    (∀ e, lookD ks vs d = some e → ∃ v, atX xs k = some v ∧ Rep K M H e v) ∧ (lookD ks vs d = none → atX xs k = none)
  | [], vs, [], _, r => by
    refine ⟨fun e h => ?_, fun _ => rfl⟩
    rw [lookD] at h <;> first | cases h | (intros; contradiction)
  | [], vs, p :: kvs, e, r => by cases e
  | k0 :: ks, vs, [], e, r => by cases e
  | k0 :: ks, vs, p :: kvs, e, r => by
    have e1 : keyN k0 = some p.1 ∧ ks.map keyN = kvs.map (fun p => some p.1) := by simpa using e
    cases vs with
    | nil => rw [Reps] at r; cases r
    | cons v vs =>
      rw [List.map_cons] at r
      rw [Reps] at r
      obtain ⟨x, xs, ex, r1, r2⟩ := r
      have ex' : p.2.2 = x ∧ kvs.map (·.2.2) = xs := by simpa using ex
      have hs : sameK k0 d = decide (p.1 = k) := by unfold sameK; rw [nk_tup_keyOf e1.1, nk_tup_keyOf ed, e1.1, ed]
      have ha : atX (p :: kvs) k = if p.1 = k then some p.2.2 else atX kvs k := by
        unfold atX
        rw [List.find?_cons]
        by_cases h : p.1 = k
        · rw [decide_eq_true h, if_pos h]; rfl
        · rw [decide_eq_false h, if_neg h]
      rw [lookD, hs, ha]
      by_cases h : p.1 = k
      · rw [decide_eq_true h, if_pos rfl, if_pos h]
        exact ⟨fun e q => by cases q; exact ⟨p.2.2, rfl, by rw [ex'.1]; exact r1⟩, fun q => nomatch q⟩
      · rw [decide_eq_false h, if_neg (by decide), if_neg h]
        exact look_n ed ks vs kvs e1.2 (by rw [ex'.2]; exact r2)
theorem kind_nil {ks : List D} {kvs : List (Key × V)} (e : ks.map keyOf = kvs.map (fun p => some p.1)) (h : kindN ks = true) : ks = [] ∧ kvs = [] := by
  cases ks with
  | nil =>
    cases kvs with
    | nil => exact ⟨rfl, rfl⟩
    | cons p kvs => cases e
  | cons k ks =>
    cases kvs with
    | nil => cases e
    | cons p kvs =>
      exfalso
      have e1 : keyOf k = some p.1 := by
        have : keyOf k = some p.1 ∧ ks.map keyOf = kvs.map (fun p => some p.1) := by simpa using e
        exact this.1
      unfold kindN at h
      rw [List.all_cons, Bool.and_eq_true] at h
      cases hk : keyN k with
      | none => rw [hk] at h; cases h.1
      | some n => rw [nk_tup_keyOf hk] at e1; cases e1
theorem kind_ne {ks : List D} {xs : List (NestedKey × Addr × V)} (hne : ks ≠ []) (e : ks.map keyN = xs.map (fun x => some x.1)) : kindK ks = false := by
  cases ks with
  | nil => exact absurd rfl hne
  | cons k ks =>
    cases xs with
    | nil => cases e
    | cons p xs =>
      have e1 : keyN k = some p.1 := by
        have : keyN k = some p.1 ∧ ks.map keyN = xs.map (fun x => some x.1) := by simpa using e
        exact this.1
      unfold kindK
      rw [List.all_cons, nk_tup_keyOf e1]; rfl
section
variable {X : Cx} {pins : List (Addr × Obj)} {σ : L2.St} {H : Hp} {s : Shared} {M : Addr → Prop} {a : Addr}
/-- what is at a, for keys that are tuples -/
structure DN (X : Cx) (M : Addr → Prop) (H : Hp) (s : Shared) (a : Addr) (ks vs : List D) (xs : List (NestedKey × Addr × V)) (ys : List (NestedKey × Addr × Value)) : Prop where
  at_ : DO X.w H a xs ∨ (xs = [] ∧ H a = some (.dK []))
  few : xs.length ≤ sizeLine
  sys : (a == sysModules) = false
  pr : Paired RelX xs ys
  dd : s.heap.DictOfH (nestedKind X.prog X.w) a ys
  ek : ks.map keyN = xs.map (fun x => some x.1)
  rk : Reps (kx X) M H ks (xs.map fun x => V.ref x.2.1)
  rv : Reps (kx X) M H vs (xs.map (·.2.2))
theorem dk_nil_h {P : Program} {w : World} {h : Heap} {vs : List (Key × Value)} (r : KV ([] : List (Key × V)) vs) (dd : h.DictOf (mixKind P w) a vs) : h.DictOfH (nestedKind P w) a [] := by
  cases r
  obtain ⟨o, es, ep, h1, h2, h3, _, h5, _⟩ := dd
  have e : es.toList = [] := by
    cases he : es.toList with
    | nil => rfl
    | cons x xs => rw [he] at h5; cases h5
  exact ⟨o, es, ep, h1, h2, h3, (by rw [e]; rfl), (by intro x hx; cases hx), List.nodup_nil⟩
theorem dn_at (I : Inv X pins σ H s) {ks vs : List D} (c : DicC (kx X) M H a ks vs) (hk : kindN ks = true) : ∃ xs ys, DN X M H s a ks vs xs ys := by
  rcases c with ⟨kvs, e, q, r⟩ | ⟨xs, hne, e, q, r1, r2⟩
  · obtain ⟨rfl, rfl⟩ := kind_nil q hk
    obtain ⟨z, hd, vs0, rel, dd⟩ := dk_of I.hok e
    exact ⟨[], [], .inr ⟨rfl, e⟩, Nat.zero_le _, hd, .nil, dk_nil_h rel dd, rfl, Reps.nil, r⟩
  · obtain ⟨hz, hs, ys, pr, dd⟩ := dn_of I e r1 q
    exact ⟨xs, ys, .inl e, hz, hs, pr, dd, q, r1, r2⟩
theorem room8 {A : Around} (hu : A.units + 65 < cLine) : (nestedKind X.prog X.w).room A.in1 := by
  show A.units + 1 + 8 < cLine
  omega
/-- a[y] -/
theorem dic_get {ks vs : List D} {d e : D} {y : V} {u : Value} {A : Around} {E : Value → Shared → Prop} {Q : Value → Shared → Prop} (hu : A.units + 65 < cLine) (I : Inv X pins σ H s) (c : DicC (kx X) M H a ks vs) (r : Rep (kx X) M H d y) (ry : RelV y u) (hf : fitK ks d = true) (he : lookD ks vs d = some e)
    (h : ∀ v w' s', Inv X pins σ H s' → RelV v w' → Rep (kx X) M H e v → Q w' s') : wpAny (model X.prog X.w) A (getItem (.ref a) u) Q E s := by
  unfold fitK at hf
  cases ho : keyOf d with
  | some k =>
    rw [ho] at hf
    rcases c with ⟨kvs, ea, q, rr⟩ | ⟨xs, hne, ea, q, r1, r2⟩
    · obtain rfl := keyOf_rep r ho
      obtain ⟨v, ev, rv⟩ := (look_k ho ks vs kvs q rr).1 e he
      exact d_getItem (by omega) I (v := v) (by have := DGet.k (k := k) ea; rw [ev] at this; exact this) ry fun w' s' I' rw' => h v w' s' I' rw' rv
    · have := kind_ne hne q
      have hf' : kindK ks = true := hf
      rw [this] at hf'; cases hf'
  | none =>
    rw [ho] at hf
    have hf' : (kindN ks && (keyN d).isSome) = true := hf
    rw [Bool.and_eq_true] at hf'
    obtain ⟨k, hk⟩ := Option.isSome_iff_exists.mp hf'.2
    obtain ⟨xs, ys, dn⟩ := dn_at I c hf'.1
    obtain ⟨b, rfl, hb⟩ := keyN_is I r hk
    obtain rfl : u = .ref b := ry
    obtain ⟨v, ev, rv⟩ := (look_n hk ks vs xs dn.ek dn.rv).1 e he
    obtain ⟨w', hw, rw'⟩ := RelO.some_of (v := v) (o := (atKey ys k).map (·.2)) (by rw [← ev]; exact atX_val dn.pr k)
    obtain ⟨p, hp, hp2⟩ := Option.map_eq_some_iff.mp hw
    refine wpAny_getItem_heap (room8 hu) hb dn.dd hp ?_
    rw [hp2]
    exact h v w' _ (I.tok _) rw' rv
theorem dic_typeIs (I : Inv X pins σ H s) {ks vs : List D} (c : DicC (kx X) M H a ks vs) : s.TypeIs (.ref a) "dict" ∧ (∀ b, Value.ref a = .ref b → ∃ ob, s.heap.get? b = some ob ∧ ob.dict = none) ∧ (a == sysModules) = false := by
  rcases c with ⟨kvs, e, q, r⟩ | ⟨xs, hne, e, q, r1, r2⟩
  · obtain ⟨z, hd, vs0, rel, dd⟩ := dk_of I.hok e
    refine ⟨dd.typeIs, fun b hb => ?_, hd⟩
    cases hb
    obtain ⟨o, _, _, h1, h2, _⟩ := dd
    exact ⟨o, h1, h2.2.1⟩
  · obtain ⟨hz, hs, ys, pr, dd⟩ := dn_of I e r1 q
    refine ⟨dd.typeIs, fun b hb => ?_, hs⟩
    cases hb
    obtain ⟨o, _, _, h1, h2, _⟩ := dd
    exact ⟨o, h1, h2.2.1⟩
/-- y in a -/
theorem dic_in {ks vs : List D} {d : D} {y : V} {u : Value} {A : Around} {E : Value → Shared → Prop} {Q : Value → Shared → Prop} (hu : A.units + 65 < cLine) (I : Inv X pins σ H s) (c : DicC (kx X) M H a ks vs) (r : Rep (kx X) M H d y) (ry : RelV y u) (hf : fitK ks d = true)
    (h : ∀ s', Inv X pins σ H s' → Q (.bool (lookD ks vs d).isSome) s') : wpAny (model X.prog X.w) A (compareOp .In u (.ref a)) Q E s := by
  unfold fitK at hf
  have key : ∀ {o : Option V}, (∀ e, lookD ks vs d = some e → ∃ v, o = some v ∧ Rep (kx X) M H e v) → (lookD ks vs d = none → o = none) → o.isSome = (lookD ks vs d).isSome := by
    intro o h1 h2
    cases hl : lookD ks vs d with
    | none => rw [h2 hl]; rfl
    | some e => obtain ⟨v, ev, _⟩ := h1 e hl; rw [ev]; rfl
  cases ho : keyOf d with
  | some k =>
    rw [ho] at hf
    rcases c with ⟨kvs, ea, q, rr⟩ | ⟨xs, hne, ea, q, r1, r2⟩
    · obtain rfl := keyOf_rep r ho
      obtain ⟨l1, l2⟩ := look_k ho ks vs kvs q rr
      exact d_in (by omega) I (DGet.k (k := k) ea) ry fun s' I' => by rw [key l1 l2]; exact h s' I'
    · have := kind_ne hne q
      have hf' : kindK ks = true := hf
      rw [this] at hf'; cases hf'
  | none =>
    rw [ho] at hf
    have hf' : (kindN ks && (keyN d).isSome) = true := hf
    rw [Bool.and_eq_true] at hf'
    obtain ⟨k, hk⟩ := Option.isSome_iff_exists.mp hf'.2
    obtain ⟨xs, ys, dn⟩ := dn_at I c hf'.1
    obtain ⟨b, rfl, hb⟩ := keyN_is I r hk
    obtain rfl : u = .ref b := ry
    obtain ⟨l1, l2⟩ := look_n hk ks vs xs dn.ek dn.rv
    refine wpAny_in_heap (room8 hu) hb dn.sys dn.dd ?_
    have q := (atX_val dn.pr k).isSome_eq
    rw [Option.isSome_map] at q
    rw [← q, key l1 l2]
    exact h _ (I.tok _)
theorem dic_notIn {ks vs : List D} {d : D} {y : V} {u : Value} {A : Around} {E : Value → Shared → Prop} {Q : Value → Shared → Prop} (hu : A.units + 65 < cLine) (I : Inv X pins σ H s) (c : DicC (kx X) M H a ks vs) (r : Rep (kx X) M H d y) (ry : RelV y u) (hf : fitK ks d = true)
    (h : ∀ s', Inv X pins σ H s' → Q (.bool (!(lookD ks vs d).isSome)) s') : wpAny (model X.prog X.w) A (compareOp .NotIn u (.ref a)) Q E s := by
  unfold fitK at hf
  have key : ∀ {o : Option V}, (∀ e, lookD ks vs d = some e → ∃ v, o = some v ∧ Rep (kx X) M H e v) → (lookD ks vs d = none → o = none) → o.isSome = (lookD ks vs d).isSome := by
    intro o h1 h2
    cases hl : lookD ks vs d with
    | none => rw [h2 hl]; rfl
    | some e => obtain ⟨v, ev, _⟩ := h1 e hl; rw [ev]; rfl
  cases ho : keyOf d with
  | some k =>
    rw [ho] at hf
    rcases c with ⟨kvs, ea, q, rr⟩ | ⟨xs, hne, ea, q, r1, r2⟩
    · obtain rfl := keyOf_rep r ho
      obtain ⟨l1, l2⟩ := look_k ho ks vs kvs q rr
      exact d_notIn (by omega) I (DGet.k (k := k) ea) ry fun s' I' => by rw [key l1 l2]; exact h s' I'
    · have := kind_ne hne q
      have hf' : kindK ks = true := hf
      rw [this] at hf'; cases hf'
  | none =>
    rw [ho] at hf
    have hf' : (kindN ks && (keyN d).isSome) = true := hf
    rw [Bool.and_eq_true] at hf'
    obtain ⟨k, hk⟩ := Option.isSome_iff_exists.mp hf'.2
    obtain ⟨xs, ys, dn⟩ := dn_at I c hf'.1
    obtain ⟨b, rfl, hb⟩ := keyN_is I r hk
    obtain rfl : u = .ref b := ry
    obtain ⟨l1, l2⟩ := look_n hk ks vs xs dn.ek dn.rv
    refine wpAny_notIn_heap (room8 hu) hb dn.sys dn.dd ?_
    have q := (atX_val dn.pr k).isSome_eq
    rw [Option.isSome_map] at q
    rw [← q, key l1 l2]
    exact h _ (I.tok _)
end
end Pyp

/-! Dicts: writing, displays, operators. -/
namespace Pyp
open PySem PySem.Spec PyProof.Rows L2
def hasK (ks : List D) (d : D) : Bool := ks.any fun k => sameK k d
def putKs (ks : List D) (d : D) : List D := if hasK ks d = true then ks else ks ++ [d]
def mapVs : List D → List D → D → D → List D
  | k :: ks, v :: vs, d, e => (if sameK k d = true then e else v) :: mapVs ks vs d e
  | _, _, _, _ => []
def putVs (ks vs : List D) (d e : D) : List D := if hasK ks d = true then mapVs ks vs d e else vs ++ [e]
theorem put_k {K M H} {k : Key} {d e : D} {v : V} (ed : keyOf d = some k) (re : Rep K M H e v) (ks vs : List D) (kvs : List (Key × V)) (q : ks.map keyOf = kvs.map (fun p => some p.1)) (r : Reps K M H vs (kvs.map (·.2))) :
    (putKs ks d).map keyOf = (putK kvs k v).map (fun p => some p.1) ∧ Reps K M H (putVs ks vs d e) ((putK kvs k v).map (·.2)) := by
  have hany : ∀ (ks : List D) (kvs : List (Key × V)), ks.map keyOf = kvs.map (fun p => some p.1) → hasK ks d = kvs.any (fun kv => decide (kv.1 = k)) := by
    intro ks
    induction ks with
    | nil =>
      intro kvs q
      cases kvs with
      | nil => rfl
      | cons p kvs => cases q
    | cons k0 ks ih =>
      intro kvs q
      cases kvs with
      | nil => cases q
      | cons p kvs =>
        have e1 : keyOf k0 = some p.1 ∧ ks.map keyOf = kvs.map (fun p => some p.1) := by simpa using q
        have hs : sameK k0 d = decide (p.1 = k) := by unfold sameK; rw [e1.1, ed]
        show (sameK k0 d || hasK ks d) = _
        rw [hs, ih kvs e1.2]; rfl
  have hm : ∀ (ks vs : List D) (kvs : List (Key × V)), ks.map keyOf = kvs.map (fun p => some p.1) → Reps K M H vs (kvs.map (·.2)) →
      kvs.map (fun p => some p.1) = (kvs.map fun kv => if kv.1 = k then (kv.1, v) else kv).map (fun p => some p.1) ∧ Reps K M H (mapVs ks vs d e) ((kvs.map fun kv => if kv.1 = k then (kv.1, v) else kv).map (·.2)) := by
    intro ks
    induction ks with
    | nil =>
      intro vs kvs q r
      cases kvs with
      | nil => exact ⟨rfl, by rw [mapVs] <;> first | exact Reps.nil | (intros; contradiction)⟩
      | cons p kvs => cases q
    | cons k0 ks ih =>
      intro vs kvs q r
      cases kvs with
      | nil => cases q
      | cons p kvs =>
        cases vs with
        | nil => rw [Reps] at r; cases r
        | cons v0 vs =>
          have e1 : keyOf k0 = some p.1 ∧ ks.map keyOf = kvs.map (fun p => some p.1) := by simpa using q
          rw [List.map_cons] at r
          rw [Reps] at r
          obtain ⟨x, xs, ex, r1, r2⟩ := r
          have ex' : p.2 = x ∧ kvs.map (·.2) = xs := by simpa using ex
          obtain ⟨i1, i2⟩ := ih vs kvs e1.2 (by rw [ex'.2]; exact r2)
          have hs : sameK k0 d = decide (p.1 = k) := by unfold sameK; rw [e1.1, ed]
          rw [mapVs, hs, List.map_cons, List.map_cons, List.map_cons, List.map_cons]
          by_cases h : p.1 = k
          · rw [decide_eq_true h, if_pos rfl, if_pos h]
            exact ⟨by rw [← i1], .cons re i2⟩
          · rw [decide_eq_false h, if_neg h, if_neg Bool.false_ne_true]
            exact ⟨by rw [← i1], .cons (by rw [ex'.1]; exact r1) i2⟩
  unfold putKs putVs putK
  rw [hany ks kvs q]
  split
  · obtain ⟨i1, i2⟩ := hm ks vs kvs q r
    exact ⟨q.trans i1, i2⟩
  · rw [List.map_append, List.map_append, List.map_append, q]
    exact ⟨by simp [ed], r.append (.cons re Reps.nil)⟩
theorem put_n {K M H} {k : NestedKey} {d e : D} {v : V} {b : Addr} (ed : keyN d = some k) (rd : Rep K M H d (.ref b)) (re : Rep K M H e v) (ks vs : List D) (kvs : List (NestedKey × Addr × V)) (q : ks.map keyN = kvs.map (fun p => some p.1)) (rk : Reps K M H ks (kvs.map fun x => V.ref x.2.1)) (r : Reps K M H vs (kvs.map (·.2.2))) :
    (putKs ks d).map keyN = (putX kvs k b v).map (fun p => some p.1) ∧ Reps K M H (putKs ks d) ((putX kvs k b v).map fun x => V.ref x.2.1) ∧ Reps K M H (putVs ks vs d e) ((putX kvs k b v).map (·.2.2)) := by
  have hsk : ∀ {k0 : D} {n : NestedKey}, keyN k0 = some n → sameK k0 d = decide (n = k) := fun h => by unfold sameK; rw [nk_tup_keyOf h, nk_tup_keyOf ed, h, ed]
  have hany : ∀ (ks : List D) (kvs : List (NestedKey × Addr × V)), ks.map keyN = kvs.map (fun p => some p.1) → hasK ks d = kvs.any (fun kv => decide (kv.1 = k)) := by
    intro ks
    induction ks with
    | nil =>
      intro kvs q
      cases kvs with
      | nil => rfl
      | cons p kvs => cases q
    | cons k0 ks ih =>
      intro kvs q
      cases kvs with
      | nil => cases q
      | cons p kvs =>
        have e1 : keyN k0 = some p.1 ∧ ks.map keyN = kvs.map (fun p => some p.1) := by simpa using q
        show (sameK k0 d || hasK ks d) = _
        rw [hsk e1.1, ih kvs e1.2]; rfl
  have hm : ∀ (ks vs : List D) (kvs : List (NestedKey × Addr × V)), ks.map keyN = kvs.map (fun p => some p.1) → Reps K M H ks (kvs.map fun x => V.ref x.2.1) → Reps K M H vs (kvs.map (·.2.2)) →
      kvs.map (fun p => some p.1) = (kvs.map fun x => if x.1 = k then (x.1, x.2.1, v) else x).map (fun p => some p.1) ∧ Reps K M H ks ((kvs.map fun x => if x.1 = k then (x.1, x.2.1, v) else x).map fun x => V.ref x.2.1) ∧
      Reps K M H (mapVs ks vs d e) ((kvs.map fun x => if x.1 = k then (x.1, x.2.1, v) else x).map (·.2.2)) := by
    intro ks
    induction ks with
    | nil =>
      intro vs kvs q rk r
      cases kvs with
      | nil => exact ⟨rfl, Reps.nil, by rw [mapVs] <;> first | exact Reps.nil | (intros; contradiction)⟩
      | cons p kvs => cases q
    | cons k0 ks ih =>
      intro vs kvs q rk r
      cases kvs with
      | nil => cases q
      | cons p kvs =>
        cases vs with
        | nil => rw [Reps] at r; cases r
        | cons v0 vs =>
          have e1 : keyN k0 = some p.1 ∧ ks.map keyN = kvs.map (fun p => some p.1) := by simpa using q
          rw [List.map_cons] at r rk
          rw [Reps] at r rk
          obtain ⟨x, xs, ex, r1, r2⟩ := r
          obtain ⟨y, ys, ey, s1, s2⟩ := rk
          have ex' : p.2.2 = x ∧ kvs.map (·.2.2) = xs := by simpa using ex
          have ey' : V.ref p.2.1 = y ∧ kvs.map (fun x => V.ref x.2.1) = ys := by simpa using ey
          obtain ⟨i1, i3, i2⟩ := ih vs kvs e1.2 (by rw [ey'.2]; exact s2) (by rw [ex'.2]; exact r2)
          rw [mapVs, hsk e1.1, List.map_cons, List.map_cons, List.map_cons, List.map_cons, List.map_cons]
          by_cases h : p.1 = k
          · rw [decide_eq_true h, if_pos rfl, if_pos h]
            exact ⟨by rw [← i1], .cons (by rw [ey'.1]; exact s1) i3, .cons re i2⟩
          · rw [decide_eq_false h, if_neg h, if_neg Bool.false_ne_true]
            exact ⟨by rw [← i1], .cons (by rw [ey'.1]; exact s1) i3, .cons (by rw [ex'.1]; exact r1) i2⟩
  unfold putKs putVs putX
  rw [hany ks kvs q]
  split
  · obtain ⟨i1, i3, i2⟩ := hm ks vs kvs q rk r
    exact ⟨q.trans i1, i3, i2⟩
  · rw [List.map_append, List.map_append, List.map_append, List.map_append, q]
    exact ⟨by simp [ed], rk.append (.cons rd Reps.nil), r.append (.cons re Reps.nil)⟩
theorem putKs_ne (ks : List D) (d : D) : putKs ks d ≠ [] := by
  unfold putKs
  split
  · rename_i h
    intro e; subst e; cases h
  · simp
section
variable {X : Cx}
/-- d[y] = z -/
def rSetD (X : Cx) : V → V → V → Hp → (Hp → Prop) → Prop := fun o i v H Q => ∃ (M : Addr → Prop) (a : Addr) (ks vs : List D) (d e : D), o = .ref a ∧ M a ∧ DicC (kx X) M H a ks vs ∧ Rep (kx X) M H d i ∧ Rep (kx X) M H e v ∧ fitK ks d = true ∧ ks.length < 1000000 ∧
  ∀ ob, DicC (kx X) M (upd H a ob) a (putKs ks d) (putVs ks vs d e) → Q (upd H a ob)
theorem set_dic (hu : X.A.units + 65 < cLine) : PSet X (rSetD X) := by
  intro pins s σ H o i v ov iv u Q I ro ri rv h
  obtain ⟨M, a, ks, vs, d, e, rfl, hM, c, rd, re, hf, hl, q⟩ := h
  obtain rfl : ov = .ref a := ro
  unfold fitK at hf
  cases ho : keyOf d with
  | some k =>
    rw [ho] at hf
    rcases c with ⟨kvs, ea, qq, rr⟩ | ⟨xs, hne, ea, qq, r1, r2⟩
    · obtain rfl := keyOf_rep rd ho
      obtain ⟨p1, p2⟩ := put_k ho (Rep.keep (upd_keep (o := .dK (putK kvs k v)) hM) _ _ re) ks vs kvs qq (Reps.keep (upd_keep (o := .dK (putK kvs k v)) hM) _ _ rr)
      have hkl : kvs.length = ks.length := by have := congrArg List.length qq; simpa using this.symm
      refine d_setItem (by omega) I (DPut.k (k := k) ea (by rw [sizeLine_eq]; omega)) ri rv fun s' I' => ⟨_, I', q _ (.inl ⟨_, upd_same, p1, p2⟩)⟩
    · have := kind_ne hne qq
      have hf' : kindK ks = true := hf
      rw [this] at hf'; cases hf'
  | none =>
    rw [ho] at hf
    have hf' : (kindN ks && (keyN d).isSome) = true := hf
    rw [Bool.and_eq_true] at hf'
    obtain ⟨k, hk⟩ := Option.isSome_iff_exists.mp hf'.2
    obtain ⟨xs, ys, dn⟩ := dn_at I c hf'.1
    obtain ⟨b, rfl, hb⟩ := keyN_is I rd hk
    obtain rfl : iv = .ref b := ri
    have hxl : xs.length = ks.length := by have := congrArg List.length dn.ek; simpa using this.symm
    have hz : ys.length ≤ sizeLine := by rw [← Paired.length dn.pr]; exact dn.few
    have hl2 : (putX xs k b v).length ≤ sizeLine := by
      have := putX_len xs k b v
      rw [sizeLine_eq]; omega
    have mu : Mut (H a) := by
      rcases dn.at_ with ⟨_, e⟩ | ⟨_, e⟩ <;> (rw [e]; exact True.intro)
    have pk : ∀ ob : HO, (putKs ks d).map keyN = (putX xs k b v).map (fun p => some p.1) ∧ Reps (kx X) M (upd H a ob) (putKs ks d) ((putX xs k b v).map fun x => V.ref x.2.1) ∧ Reps (kx X) M (upd H a ob) (putVs ks vs d e) ((putX xs k b v).map (·.2.2)) := fun ob =>
      put_n hk (Rep.keep (upd_keep (o := ob) hM) _ _ rd) (Rep.keep (upd_keep (o := ob) hM) _ _ re) ks vs xs dn.ek (Reps.keep (upd_keep (o := ob) hM) _ _ dn.rk) (Reps.keep (upd_keep (o := ob) hM) _ _ dn.rv)
    refine wpAny_setItem_heap (hsz := hz) (room8 hu) hb dn.dd fun h' dd' hs => ?_
    have he : ∃ q, h'.get? a = some q := let ⟨q, _, _, hq, _⟩ := dd'; ⟨q, hq⟩
    have dd2 := dd'
    obtain ⟨o, es, ep, h1, h2, h3, h4, _, h5⟩ := dd2
    have ok : ∀ H', ObjOk X.prog X.w H' h' a (DicO X.w a (putX xs k b v) o) := fun H' =>
      ⟨⟨hl2, dn.sys, _, put_pair dn.pr k b rv, es, ep, h1, h2, h3, h4, h5⟩, ⟨o, h1⟩, fun g1 g2 p k => by
        obtain ⟨hz, hs, ys, pr, es, ep, h1, h2, h3, h4, h5⟩ := p
        exact ⟨hz, hs, ys, pr, es, ep, k o h1, h2, h3, h4, h5⟩⟩
    obtain ⟨p1, p3, p2⟩ := pk (DicO X.w a (putX xs k b v) o)
    exact ⟨_, d_write I mu hs he (ok _), q _ (.inr ⟨_, putKs_ne ks d, ⟨o, upd_same⟩, p1, p3, p2⟩)⟩
end
end Pyp

/-! Dicts in expressions. -/
namespace Pyp
open PySem PySem.Spec PyProof.Rows L2
theorem cr_key {K M H ks d v} (hf : fitK ks d = true) (c : CR K M H d v) : Rep K M H d v := by
  cases d with
  | lst ds =>
    exfalso
    unfold fitK keyOf keyN at hf
    simp [nk] at hf
  | dic ks vs =>
    exfalso
    unfold fitK keyOf keyN at hf
    simp [nk] at hf
  | _ => exact c
def dIxA (d e : D) : Option Val := match d with
  | .dic ks vs => if fitK ks e = true then (lookD ks vs e).map .d else none
  | d => dIx d e
def dInA (d e : D) : Option Val := match e with
  | .dic ks vs => if fitK ks d = true then some (.d (.bl (lookD ks vs d).isSome)) else none
  | e => dIn d e
def dNotInA (d e : D) : Option Val := match e with
  | .dic ks vs => if fitK ks d = true then some (.d (.bl (!(lookD ks vs d).isSome))) else none
  | e => dNotIn d e
theorem cr_dic {K M H ks vs v} (c : CR K M H (.dic ks vs) v) : ∃ a, v = .ref a ∧ DicC K M H a ks vs := c
section
variable {X : Cx} {W : WX} {a b c e : Expr} {xa xb xc xe : Ex} {pos p p2 p3 : Pos}
theorem o_inA (hu : X.A.units + 65 < cLine) : OpS X (compareOp .In) dInA := by
  intro pins s σ H x y u v M m ph dx dy val Q I rx ry r hx hy e g
  cases dy with
  | dic ks vs =>
    have e' : (if fitK ks dx = true then some (Val.d (.bl (lookD ks vs dx).isSome)) else none) = some val := e
    split at e'
    · rename_i hf
      cases e'
      obtain ⟨a, rfl, c⟩ := cr_dic hy
      obtain rfl : v = .ref a := ry
      exact dic_in hu I c (cr_key hf hx) rx hf fun s' I' => ⟨.bl _, H, I', rfl, g.bl r⟩
    · cases e'
  | _ => exact o_in hu pins s σ H x y u v M m ph dx _ val Q I rx ry r hx hy e g
theorem o_notinA (hu : X.A.units + 65 < cLine) : OpS X (compareOp .NotIn) dNotInA := by
  intro pins s σ H x y u v M m ph dx dy val Q I rx ry r hx hy e g
  cases dy with
  | dic ks vs =>
    have e' : (if fitK ks dx = true then some (Val.d (.bl (!(lookD ks vs dx).isSome))) else none) = some val := e
    split at e'
    · rename_i hf
      cases e'
      obtain ⟨a, rfl, c⟩ := cr_dic hy
      obtain rfl : v = .ref a := ry
      exact dic_notIn hu I c (cr_key hf hx) rx hf fun s' I' => ⟨.bl _, H, I', rfl, g.bl r⟩
    · cases e'
  | _ => exact o_notin hu pins s σ H x y u v M m ph dx _ val Q I rx ry r hx hy e g
def rIxD (X : Cx) : R2 := fun x y H Q => ∃ (M : Addr → Prop) (a : Addr) (ks vs : List D) (d e : D), x = .ref a ∧ DicC (kx X) M H a ks vs ∧ Rep (kx X) M H d y ∧ fitK ks d = true ∧ lookD ks vs d = some e ∧ ∀ v, Rep (kx X) M H e v → Q v H
theorem ix_dic (hu : X.A.units + 65 < cLine) : IxR X (rIxD X) := by
  intro value slice pins s σ H x y v u Q I rx ry h hs
  obtain ⟨M, a, ks, vs, d, e, rfl, c, rd, hf, hl, q⟩ := h
  obtain rfl : v = .ref a := rx
  exact tail_any (dic_typeIs I c).1 PySem.F.slot_dict_getitem.lookup (dic_get hu I c rd ry hf hl fun v w' s' I' rw' re => ⟨v, H, I', rw', q v re⟩) hs
theorem ix_old {M : Addr → Prop} {m : List Addr} {H2 : Hp} {ph2 : PH} {dx dy : D} {v1 v2 : V} {val : Val} {Q : VK} (c1 : CR (kx X) M H2 dx v1) (c2 : CR (kx X) M H2 dy v2) (ev : dIx dx dy = some val) (r2 : Rel (kx X) M m H2 ph2) (g : GE X M m H2 Q val ph2) : rIx X.K v1 v2 H2 Q := by
  unfold dIx at ev
  split at ev
  · rename_i ds i
    cases h : atI ds i with
    | none => rw [h] at ev; cases ev
    | some d =>
      rw [h] at ev; cases ev
      obtain ⟨p, xs, rfl, t, rs⟩ := cr_tup c1
      obtain ⟨v, ea, rv⟩ := atI_rep rs h
      exact .inr (.inl ⟨p, xs, i, v, rfl, cr_int c2, t.sq, ea, g.dat r2 rv⟩)
  · rename_i ds i
    cases h : atI ds i with
    | none => rw [h] at ev; cases ev
    | some d =>
      rw [h] at ev; cases ev
      obtain ⟨p, xs, rfl, t, rs⟩ := cr_lst c1
      obtain ⟨v, ea, rv⟩ := atI_rep rs h
      exact .inl ⟨p, xs, i, v, rfl, cr_int c2, SqL.of t, ea, g.dat r2 rv⟩
  · rename_i ns i
    cases h : atI ns i with
    | none => rw [h] at ev; cases ev
    | some n =>
      rw [h] at ev; cases ev
      obtain ⟨p, rfl, t⟩ := cr_fz c1
      exact .inl ⟨p, _, i, .int n, rfl, cr_int c2, t.sq, atI_map h, g.int r2⟩
  · rename_i x i
    split at ev
    · rename_i hl
      cases h : atI x i with
      | none => rw [h] at ev; cases ev
      | some d =>
        rw [h] at ev; cases ev
        refine .inr (.inr ⟨_, i, d, cr_str c1, cr_int c2, ?_, by simpa using h, ?_⟩)
        · show x.toArray.size ≤ sizeLine
          simpa using lim_line hl
        · exact g.str r2
    · cases ev
  · cases ev
/-- x[y], x a list, a tuple, a text, a dict -/
theorem s_ixA (hu : X.A.units + 65 < cLine) (ha : SE X W a xa) (hb : SE X W b xb) (hs : PlainIx b := by exact fun _ _ => rfl) : SE X W (.Subscript a b pos) (eBin dIxA xa xb) := ⟨fun M m σ H env ph r er Q q => tW_of (pe_ix (ix_seq.or (ix_dic hu)) tW_pe tW_pe hs) (by
  refine ha.bind r er q fun va ph1 v1 H1 fr1 r1 er1 rv1 _ q1 => ?_
  refine hb.bind r1 er1 q1 fun vb ph2 v2 H2 fr2 r2 er2 rv2 _ q2 => ?_
  split at q2
  · rename_i dx dy e1 e2
    obtain ⟨val, ev, g⟩ := Post.of (Q := Q) (M := M) (m := m) (H := H2) (X := X) (W := W) (σ := σ) (o := dIxA dx dy) (ph := ph2) (Post.mono (fun _ _ g => GE.at (fr1.trans fr2) r2 g) q2)
    have c1 := (rv1.keep r1 fr2).cr r2 e1
    have c2 := rv2.cr r2 e2
    cases dx with
    | dic ks vs =>
      have ev' : (if fitK ks dy = true then (lookD ks vs dy).map Val.d else none) = some val := ev
      split at ev'
      · rename_i hf
        obtain ⟨z, rfl, c⟩ := cr_dic c1
        cases hl : lookD ks vs dy with
        | none => rw [hl] at ev'; cases ev'
        | some e =>
          rw [hl] at ev'
          cases ev'
          exact .inr ⟨M, z, ks, vs, dy, e, rfl, c, cr_key hf c2, hf, hl, fun v re => g.dat r2 re⟩
      · cases ev'
    | _ => exact .inl (ix_old c1 c2 ev r2 g)
  · exact q2.elim)⟩
/-! {} and displays -/
theorem dic_own {K M m H H0 ph p ks vs kvs} (r : Rel K M m H ph) (hp : H p = none) (h0 : H0 p = none) (q : ks.map keyOf = kvs.map (fun (x : Key × V) => some x.1)) (h : Reps K M H vs (kvs.map (·.2))) : RV K M m H0 (upd H p (.dK kvs)) (.ref p) (.own (.dic ks vs)) :=
  ⟨p, rfl, h0, r.notM hp, .inl ⟨kvs, upd_same, q, Reps.keep (keep_new hp) _ _ h⟩⟩
theorem dic_ro {K M m H ph p ks vs kvs} (r : Rel K M m H ph) (hp : H p = none) (q : ks.map keyOf = kvs.map (fun (x : Key × V) => some x.1)) (h : Reps K M H vs (kvs.map (·.2))) : RO K M m (upd H p (.dK kvs)) ph (.ref p) (.own (.dic ks vs)) := fun d e a ea => by
  cases e; cases ea
  exact ⟨r.newM hp, .inl ⟨kvs, upd_same, q, Reps.keep (keep_new hp) _ _ (Reps.fresh hp _ _ h)⟩⟩
def eDNew : Ex := fun _ ph => .ok (.own (.dic [] [])) ph
theorem s_dnew : SE X W (.Dict [] [] pos) eDNew := ⟨fun M m σ H env ph r er Q q => tW_of pe_dnewK (by
  intro p hp
  exact q (.ref p) _ (Frame.new hp) (r.new hp) (dic_own r hp hp rfl Reps.nil) (dic_ro r hp rfl Reps.nil))⟩
end
end Pyp

/-! Dicts: displays, stores. -/
namespace Pyp
open PySem PySem.Spec PyProof.Rows L2
section
variable {K : Kx} {M : Addr → Prop} {m : List Addr} {H : Hp} {ph : PH} {p : Addr} {o : HO}
/-- one's own object is written -/
theorem Rel.updOwn (r : Rel K M m H ph) (hm : M p) (hp : p ∉ m) : Rel K M m (upd H p o) ph where
  len := r.len
  nd := r.nd
  sub := r.sub
  dom := fun a z => by
    by_cases e : a = p
    · subst e; exact ⟨o, upd_same⟩
    · obtain ⟨u, q⟩ := r.dom a z
      exact ⟨u, by rw [upd_ne e]; exact q⟩
  cont := fun n a d e1 e2 => (r.cont n a d e1 e2).keep (upd_keep hm) fun u e => by
    have hne : a ≠ p := fun q => hp (by rw [← q]; exact List.mem_of_getElem? e1)
    rw [upd_ne hne]; exact e
end
abbrev PPx := Env → PH → Res (List D × List D)
def GPP (X : Cx) (M : Addr → Prop) (m : List Addr) (H : Hp) (Q : List (V × V) → Hp → Prop) : List D × List D → PH → Prop := fun p ph => ∀ ps H', Frame m H H' → Rel (kx X) M m H' ph → Reps (kx X) M H' p.1 (ps.map (·.1)) → Reps (kx X) M H' p.2 (ps.map (·.2)) → Q ps H'
structure SPP (X : Cx) (W : WX) (pos : Pos) (keys : List (Option Expr)) (values : List Expr) (x : PPx) : Prop where
  ex : ∃ trs, PPs X pos keys values trs ∧ ∀ M m σ H env ph, Rel (kx X) M m H ph → EnvR (kx X) M m σ H env → ∀ Q, Post X W M m σ H (GPP X M m H Q) (x env ph) → tPairs trs σ H Q
def ppNil : PPx := fun _ ph => .ok ([], []) ph
def ppCons (k v : Ex) (r : PPx) : PPx := fun env ph => (k env ph).bind fun a ph1 => (v env ph1).bind fun b ph2 => match a.dat, b.dat with
  | some d, some e => (r env ph2).bind fun p ph3 => .ok (d :: p.1, e :: p.2) ph3
  | _, _ => .bad
section
variable {X : Cx} {W : WX} {a b c e k v : Expr} {xa xb xc xe xk xv : Ex} {pos p p2 p3 apos cpos : Pos} {ks : List (Option Expr)} {vs : List Expr} {xr : PPx}
theorem pp_nil : SPP X W pos [] [] ppNil := ⟨_, pps_nil, fun M m σ H env ph r er Q q => q [] H Frame.refl r Reps.nil Reps.nil⟩
theorem pp_cons (hk : SE X W k xk) (hv : SE X W v xv) (hr : SPP X W pos ks vs xr) : SPP X W pos (some k :: ks) (v :: vs) (ppCons xk xv xr) := by
  obtain ⟨trs, h1, h2⟩ := hr.ex
  refine ⟨_, pps_cons tW_pe tW_pe h1, fun M m σ H env ph r er Q q => ?_⟩
  refine hk.bind r er q fun a ph1 av H1 f1 r1 er1 rva _ q1 => ?_
  refine hv.bind r1 er1 q1 fun b ph2 bv H2 f2 r2 er2 rvb _ q2 => ?_
  split at q2
  · rename_i d e ed ee
    refine h2 M m σ H2 env ph2 r2 er2 _ ?_
    cases hx : xr env ph2 with
    | bad => rw [hx] at q2; exact q2.elim
    | exc c fs ph3 => rw [hx] at q2; exact q2
    | ok p ph3 =>
      rw [hx] at q2
      intro ps H3 f3 r3 rk rv
      have q3 : GPP X M m H Q (d :: p.1, e :: p.2) ph3 := q2
      exact q3 ((av, bv) :: ps) H3 ((f1.trans f2).trans f3) r3 (.cons (Rep.keep (f3.keep r2) _ _ ((rva.keep r1 f2).dat ed)) rk) (.cons (Rep.keep (f3.keep r2) _ _ (rvb.dat ee)) rv)
  · exact q2.elim
theorem keys_kvs {K M H} : ∀ (ks : List D) (ps : List (V × V)), Reps K M H ks (ps.map (·.1)) → kindK ks = true → ∃ kvs : List (Key × V), ps = kvs.map (fun kv => (kV kv.1, kv.2)) ∧ ks.map keyOf = kvs.map (fun p => some p.1)
  | [], [], _, _ => ⟨[], rfl, rfl⟩
  | [], p :: ps, r, _ => by rw [Reps] at r; cases r
  | k :: ks, [], r, _ => by
    rw [Reps] at r
    obtain ⟨v, vs, e, _⟩ := r
    cases e
  | k :: ks, p :: ps, r, h => by
    rw [List.map_cons] at r
    rw [Reps] at r
    obtain ⟨v, vs, e, r1, r2⟩ := r
    have e' : p.1 = v ∧ ps.map (·.1) = vs := by simpa using e
    unfold kindK at h
    rw [List.all_cons, Bool.and_eq_true] at h
    obtain ⟨kk, hkk⟩ := Option.isSome_iff_exists.mp h.1
    obtain ⟨kvs, e1, e2⟩ := keys_kvs ks ps (by rw [e'.2]; exact r2) h.2
    have ev := keyOf_rep r1 hkk
    refine ⟨(kk, p.2) :: kvs, ?_, ?_⟩
    · rw [List.map_cons, ← e1, ← ev, ← e'.1]
    · rw [List.map_cons, List.map_cons, hkk, e2]
def dispD : List D → List D → List D → List D → List D × List D
  | k :: ks, v :: vs, a, b => dispD ks vs (putKs a k) (putVs a b k v)
  | _, _, a, b => (a, b)
theorem disp_rep {K M H} : ∀ (ks vs : List D) (kvs : List (Key × V)) (a b : List D) (acc : List (Key × V)), ks.map keyOf = kvs.map (fun p => some p.1) → Reps K M H vs (kvs.map (·.2)) → a.map keyOf = acc.map (fun p => some p.1) → Reps K M H b (acc.map (·.2)) →
    (dispD ks vs a b).1.map keyOf = (mergeK acc kvs).map (fun p => some p.1) ∧ Reps K M H (dispD ks vs a b).2 ((mergeK acc kvs).map (·.2))
  | [], vs, [], a, b, acc, _, _, e2, r2 => by
    rw [dispD]
    · exact ⟨e2, r2⟩
    · intros; contradiction
  | [], vs, p :: kvs, a, b, acc, e, _, _, _ => by cases e
  | k :: ks, vs, [], a, b, acc, e, _, _, _ => by cases e
  | k :: ks, [], p :: kvs, a, b, acc, _, r, _, _ => by rw [Reps] at r; cases r
  | k :: ks, v :: vs, p :: kvs, a, b, acc, e, r, e2, r2 => by
    rw [List.map_cons] at r
    rw [Reps] at r
    obtain ⟨x, xs, ex, r1, r3⟩ := r
    have ex' : p.2 = x ∧ kvs.map (·.2) = xs := by simpa using ex
    have e1 : keyOf k = some p.1 ∧ ks.map keyOf = kvs.map (fun p => some p.1) := by simpa using e
    obtain ⟨p1, p2⟩ := put_k e1.1 (v := p.2) (by rw [ex'.1]; exact r1) a b acc e2 r2
    rw [dispD]
    exact disp_rep ks vs kvs _ _ (putK acc p.1 p.2) e1.2 (by rw [ex'.2]; exact r3) p1 p2
def eDisp (r : PPx) : Ex := fun env ph => match r env ph with
  | .ok p ph1 => if kindK p.1 = true then .ok (.own (.dic (dispD p.1 p.2 [] []).1 (dispD p.1 p.2 [] []).2)) ph1 else .bad
  | _ => .bad
theorem VVlen {K M H} {ks : List D} {ps : List (V × V)} (r : Reps K M H ks (ps.map (·.1))) : ps.length = ks.length := by
  have := r.length
  simpa using this
theorem s_disp {keys : List (Option Expr)} {values : List Expr} (h : SPP X W pos keys values xr) (hln : ∀ env ph p ph1, xr env ph = .ok p ph1 → p.1.length = keys.length) (hall : keys.all (·.isSome) = true := by rfl) (hl : keys.length = values.length := by rfl) (h0 : keys ≠ [] := by exact List.cons_ne_nil _ _) (h15 : keys.length ≤ 15 := by decide) :
    SE X W (.Dict keys values pos) (eDisp xr) := by
  obtain ⟨trs, h1, h2⟩ := h.ex
  refine ⟨fun M m σ H env ph r er Q q => tW_of (pe_disp h1 hall hl h0 h15) ?_⟩
  intro p hp
  unfold eDisp at q
  refine h2 (MAdd M p) m σ (upd H p (.dK [])) env ph (r.newM hp) (er.newM hp) _ ?_
  cases hx : xr env ph with
  | bad => rw [hx] at q; exact q.elim
  | exc c fs ph3 => rw [hx] at q; exact q.elim
  | ok pr ph1 =>
    rw [hx] at q
    have q : Post X W M m σ H (GE X M m H Q) (if kindK pr.1 = true then .ok (.own (.dic (dispD pr.1 pr.2 [] []).1 (dispD pr.1 pr.2 [] []).2)) ph1 else .bad) := q
    split at q
    · rename_i hc
      intro ps H2 f2 r2 rk rv
      have hpm : p ∉ m := fun z => r.notM hp (r.sub p z)
      have e2 := f2 p _ upd_same hpm
      obtain ⟨kvs, e3, e4⟩ := keys_kvs _ _ rk hc
      have hlen : kvs.length ≤ 15 := by
        have l1 := VVlen rk
        have l2 := hln env ph pr ph1 hx
        have l3 : ps.length = kvs.length := by rw [e3, List.length_map]
        omega
      have rv' : Reps (kx X) (MAdd M p) H2 pr.2 (kvs.map (·.2)) := by
        rw [e3, List.map_map] at rv
        exact rv
      refine ⟨e2, kvs, e3, hlen, ?_⟩
      have kk : KeepP (MAdd M p) H2 (upd H2 p (.dK (mergeK [] kvs))) := upd_keep (.inr rfl)
      obtain ⟨d1, d2⟩ := disp_rep pr.1 pr.2 kvs [] [] [] e4 rv' rfl Reps.nil
      have cont : Cont (kx X) (MAdd M p) (upd H2 p (.dK (mergeK [] kvs))) p (.dic (dispD pr.1 pr.2 [] []).1 (dispD pr.1 pr.2 [] []).2) := .inl ⟨_, upd_same, d1, Reps.keep kk _ _ d2⟩
      have rel3 : Rel (kx X) (MAdd M p) m (upd H2 p (.dK (mergeK [] kvs))) ph1 := r2.updOwn (.inr rfl) hpm
      have k0 : ∀ b, M b → MAdd M p b := fun b z => .inl z
      refine q (.ref p) _ (fun b o hb hm => ?_) (rel3.anti k0 r.sub) ⟨p, rfl, hp, r.notM hp, cont.anti k0⟩ fun d e a ea => ?_
      · have hbp := ne_of_none hb hp
        rw [upd_ne hbp]
        exact f2 b o (by rw [upd_ne hbp]; exact hb) hm
      · cases e; cases ea
        exact ⟨rel3, cont⟩
    · exact q.elim
theorem ppl_nil : ∀ env ph p ph1, ppNil env ph = .ok p ph1 → p.1.length = ([] : List (Option Expr)).length := fun env ph p ph1 h => by cases h; rfl
theorem ppl_cons {o : Option Expr} (h : ∀ env ph p ph1, xr env ph = .ok p ph1 → p.1.length = ks.length) : ∀ env ph p ph1, ppCons xk xv xr env ph = .ok p ph1 → p.1.length = (o :: ks).length := fun env ph p ph1 q => by
  unfold ppCons at q
  cases h1 : xk env ph with
  | bad => rw [h1] at q; cases q
  | exc c fs ph3 => rw [h1] at q; cases q
  | ok va ph2 =>
    rw [h1, Res.bind_ok] at q
    cases h2 : xv env ph2 with
    | bad => rw [h2] at q; cases q
    | exc c fs ph3 => rw [h2] at q; cases q
    | ok vb ph3 =>
      rw [h2, Res.bind_ok] at q
      split at q
      · cases h3 : xr env ph3 with
        | bad => rw [h3] at q; cases q
        | exc c fs ph3 => rw [h3] at q; cases q
        | ok pr ph4 =>
          rw [h3] at q
          cases q
          have := h env ph3 pr _ h3
          simp [this]
      · cases q
/-! ### d[k] = v -/
def sPutD (i : Nat) (ix x : Ex) : Sx := fun env ph => match env[i]? with
  | some (some (.own (.dic ks vs))) => (x env ph).bindS env fun v ph1 => (ix env ph1).bindS env fun k ph2 => match v.dat, k.dat with
    | some e, some d => if fitK ks d = true ∧ ks.length < 1000000 then .nx (env.set i (some (.own (.dic (putKs ks d) (putVs ks vs d e))))) ph2 else .bad
    | _, _ => .bad
  | _ => .bad
theorem dicC_len {K M H a ks vs} (c : DicC K M H a ks vs) : True := trivial
theorem st_putD (hu : X.A.units + 65 < cLine) (i : Nat) {n : Str} (ha : SE X W a xa) (he : SE X W e xe) (hN : X.N[i]? = some n := by rfl) (hv : Vis X.env.scope n := by first | exact Or.inl rfl | exact Or.inr (Or.inl rfl) | exact Or.inr (Or.inr rfl)) (hd : (n == ("__debug__" : Str)) = false := by decide)
    (hcd : (n == ("__classdict__" : Str)) = false := by decide) (hs : swapsWithSole [.Subscript (.Name n p) a p2] e pos.line X.env = pure false := by rfl) (hw : swappedStores [.Subscript (.Name n p) a p2] e X.env = pure none := by rfl)
    (h1 : (assignEach [.Subscript (.Name n p) a p2] X.env).map (·.2) = [assign (.Subscript (.Name n p) a p2) X.env] := by rfl)
    (hpl : ∀ v, assign (.Subscript (.Name n p) a p2) X.env v = (do
      let ov ← holding [v] (eval (.Name n p) X.env)
      let iv ← holding [v, ov] (eval a X.env)
      standAt p2
      holding [v, ov, iv] (setItem ov iv v)
      release [v, ov, iv] []) := by intro _; rfl) : SS X W (.Assign [.Subscript (.Name n p) a p2] e pos) (sPutD i xa xe) := ⟨fun M0 H0 hd' M m σ H env ph s D q =>
  tWS_of (ps_asg tW_pe (pg_sub (pe_var hN hv hd hcd) tW_pe (set_dic hu) hpl) hs hw h1) (by
    unfold sPutD at q
    split at q
    · rename_i ks vs ei
      obtain ⟨w, e1, a', rfl, ma, am, c⟩ := s.er.2 i _ ei
      refine he.bindS s q fun val ph1 v H1 fr s1 rv _ q1 => ⟨_, e1, ha.bindS s1 q1 fun kv ph2 kw H2 fr2 s2 rv2 _ q2 => ?_⟩
      split at q2
      · rename_i ev kd ed ek
        split at q2
        · rename_i hf
          have c2 : Cont (kx X) M H2 a' (.dic ks vs) := Cont.keep ((fr.trans fr2).keep s.rel) (fun o z => (fr.trans fr2) a' o z am) c
          refine ⟨M, a', ks, vs, kd, ev, rfl, ma, c2, rv2.dat ek, (rv.keep s1.rel fr2).dat ed, hf.1, hf.2, fun ob dc => ?_⟩
          exact q2 M σ _ (s2.mutOwn ei e1 (fun b o hb z => by rw [upd_ne hb]; exact z) dc)
        · exact q2.elim
      · exact q2.elim
    · exact q.elim)⟩
end
end Pyp

/-! Dicts: get, the greatest value, the keys from the greatest on. -/
namespace Pyp
open PySem PySem.Spec PyProof.Rows L2
theorem dicK_of {K M H a ks vs} (c : DicC K M H a ks vs) (h : kindK ks = true) : ∃ kvs, H a = some (.dK kvs) ∧ ks.map keyOf = kvs.map (fun p => some p.1) ∧ Reps K M H vs (kvs.map (·.2)) := by
  rcases c with c | ⟨xs, hne, e, q, _⟩
  · exact c
  · rw [kind_ne hne q] at h; cases h
theorem kindK_ints : ∀ {ks : List D} {ns : List Int}, intsD ks = some ns → kindK ks = true ∧ ks = ns.map D.int
  | [], ns, h => by
    rw [intsD] at h; cases h
    exact ⟨rfl, rfl⟩
  | k :: ks, ns, h => by
    cases k with
    | int i =>
      rw [intsD] at h
      cases hk : intsD ks with
      | none => rw [hk] at h; cases h
      | some n =>
        rw [hk] at h
        cases h
        obtain ⟨h1, h2⟩ := kindK_ints hk
        refine ⟨?_, by rw [h2]; rfl⟩
        unfold kindK at h1 ⊢
        rw [List.all_cons, h1]; rfl
    | _ => cases h
section
variable {X : Cx} {W : WX} {a b c e k v o : Expr} {xa xb xc xe xk xv xo : Ex} {pos p p2 p3 p4 apos cpos mpos : Pos}
/-! ### d.get(k, x) -/
def eDGet2 (o a b : Ex) : Ex := fun env ph => (o env ph).bind fun v ph1 => match v with
  | .bor (.dic ks vs) => if kindK ks = true then (a env ph1).bind fun k ph2 => (b env ph2).bind fun x ph3 => match k, x.dat with
    | .d d, some y => if (keyOf d).isSome = true then .ok (.d ((lookD ks vs d).getD y)) ph3 else .bad
    | _, _ => .bad else .bad
  | _ => .bad
theorem s_dget2 (hu : X.A.units + 65 < cLine) (ho : SE X W o xo) (ha : SE X W a xa) (hb : SE X W b xb) (m : M2 X o "get" apos a b cpos := by exact ⟨rfl, rfl, rfl, rfl⟩) : SE X W (.Call (.Attribute o "get" apos) [a, b] [] cpos) (eDGet2 xo xa xb) := ⟨fun M m σ H env ph r er Q q =>
  tW_of (pe_dget2 (by omega) tW_pe tW_pe tW_pe (by assumption)) (by
  refine ho.bind r er q fun val ph1 v H1 f1 r1 er1 rv1 ro1 q1 => ?_
  clear ro1
  split at q1
  · rename_i ks vs
    split at q1
    · rename_i hk
      obtain ⟨z, rfl, ma, am, c⟩ := rv1
      obtain ⟨kvs1, h1, _, _⟩ := dicK_of (show DicC (kx X) M H1 z ks vs from c) hk
      refine ⟨z, rfl, .inl ⟨kvs1, .inl h1⟩, ha.bind r1 er1 q1 fun kv ph2 kw H2 f2 r2 er2 rv2 ro2 q2 => hb.bind r2 er2 q2 fun xv ph3 xw H3 f3 r3 er3 rv3 ro3 q3 => ?_⟩
      clear ro2 ro3
      split at q3
      · rename_i d y ed
        split at q3
        · rename_i hkk
          obtain ⟨kk, hkk⟩ := Option.isSome_iff_exists.mp hkk
          have c3 : Cont (kx X) M H3 z (.dic ks vs) := Cont.keep ((f2.trans f3).keep r1) (fun o h => (f2.trans f3) z o h am) c
          obtain ⟨kvs, h3, q5, r5⟩ := dicK_of (show DicC (kx X) M H3 z ks vs from c3) hk
          have rk : Rep (kx X) M H3 d kw := rv2.keep r2 f3
          obtain rfl := keyOf_rep rk hkk
          refine ⟨_, DGet.k (k := kk) h3, ?_⟩
          obtain ⟨l1, l2⟩ := look_k hkk ks vs kvs q5 r5
          have g : GE X M m H Q (.d ((lookD ks vs d).getD y)) ph3 := q3
          have g3 := GE.at ((f1.trans f2).trans f3) r3 g
          cases hl : lookD ks vs d with
          | none =>
            rw [l2 hl]
            rw [hl] at g3
            exact g3.dat r3 (rv3.dat ed)
          | some w =>
            obtain ⟨v, e1, e2⟩ := l1 w hl
            rw [e1]
            rw [hl] at g3
            exact g3.dat r3 e2
        · exact q3.elim
      · exact q3.elim
    · exact q1.elim
  · exact q1.elim)⟩
/-! ### max(d.values()) -/
def tMaxVals (td : TE) : TE := fun σ H Q => td σ H fun x H1 => ∃ a kvs is, x = V.ref a ∧ H1 a = some (.dK kvs) ∧ kvs.map (·.2) = is.map V.int ∧ is ≠ [] ∧ ∀ m, m ∈ is → (∀ j ∈ is, j ≤ m) → Q (.int m) H1
theorem pe_maxVals {td : TE} (hc : X.calm = true) (hg : Gl X "max") (hm : X.mg "max" = none) (hd : PE X o td) (hbase : attributeBase o "values" X.env (eval o X.env) = eval o X.env := by rfl) (hline : (apos.endLine == mpos.line) = true := by rfl)
    (hse : starEach [Expr.Call (.Attribute o "values" apos) [] [] mpos] X.env = [(false, eval (Expr.Call (.Attribute o "values" apos) [] [] mpos) X.env)] := by rfl) : PE X (.Call (.Name "max" p) [.Call (.Attribute o "values" apos) [] [] mpos] [] pos) (tMaxVals td) := by
  refine ⟨fun pins t σ H Q I h => ?_⟩
  refine wpAny_Call_Name_kw (ld_blt I hg hm (u := .builtin "max") (by first | rfl | decide +kernel) ?_ (by first | decide +kernel | decide) (by first | decide +kernel | decide))
  rw [hse]
  refine PySem.callWith_builtin1 (wpAny_Call_method0_late hbase hline (thn (hd.run pins t σ H _ I h) fun v t1 ⟨x, H1, I1, r1, d, kvs, ns, ex, hd, hv, hne, q⟩ => ?_))
  subst ex
  obtain rfl : v = Value.ref d := r1
  obtain ⟨_, hsys, vs, rel, dof⟩ := dk_of I1.hok hd
  obtain ⟨ep, dat⟩ := dof.dictAt
  obtain ⟨ob, es, hob, hex, hrest⟩ := id dat
  refine ⟨"dict", "dict.values", F.plainAttrs_dict, F.slot_dict_values, F.type_dict_values, ⟨ob, hob, hex.1⟩, fun b z => ?_, Calls.callWith_builtin rfl (PySem.evalArgs_none ?_)⟩
  · cases z
    exact ⟨ob, hob, hex.2.1⟩
  refine call_meetsIn F.slot_dict_values ⟨ob, hob, hex.1⟩ F.entry_dict_values (F.args_dict_values_1 _) (meets_dict_values (mixKind X.prog X.w) d hsys) ⟨⟨vs, dof⟩, ?_⟩
  -- the view's heap
  obtain ⟨g, hg1⟩ : ∃ g, g = t1.heap.push { cls := .type "dict_values", data := .fields #[.ref d] } := ⟨_, rfl⟩
  have kp : ∀ b u, t1.heap.get? b = some u → g.get? b = some u := fun b u z => by rw [hg1]; exact Heap.get?_push_of_some _ z
  have gz : g.objs.size = t1.heap.objs.size + 1 := by rw [hg1]; exact Heap.size_push _ _
  have gv : g.get? t1.heap.objs.size = some { cls := .type "dict_values", data := .fields #[.ref d] } := by rw [hg1]; exact Heap.get?_push_size _ rfl
  have dlt : d < t1.heap.objs.size := Heap.lt_size hob
  have len : vs.length = ns.length := by
    have z := congrArg List.length hv
    rw [List.length_map, List.length_map] at z
    rw [← z]
    exact (KV.length rel).symm
  have pos' : 0 < vs.length := by rw [len]; exact List.length_pos_iff.mpr hne
  have each : ∀ (i : Nat) (u : Value), (∃ k, vs[i]? = some (k, u)) → ∃ tk, u = Value.int (ns.getD i 0) tk := fun i u ⟨k, hk⟩ => by
    obtain ⟨y, y1, y2⟩ := KV.at' rel hk
    have z : (kvs.map (·.2))[i]? = some y := by rw [List.getElem?_map, y1] <;> rfl
    rw [hv, List.getElem?_map] at z
    obtain ⟨j, hj, z2⟩ := Option.map_eq_some_iff.mp z
    subst z2
    obtain ⟨tk, y3⟩ := y2
    exact ⟨tk, by rw [y3, List.getD_eq_getElem?_getD, hj] <;> rfl⟩
  show wpAny (model X.prog X.w) X.A (call (.builtin "max") [.ref t1.heap.objs.size]) _ _ { t1 with heap := t1.heap.push { cls := .type "dict_values", data := .fields #[.ref d] } }
  rw [← hg1]
  have datg : g.DictAt (mixKind X.prog X.w) d vs ep := dat.keep kp
  refine call_max_walk (wpAny_pyIter_values (v := t1.heap.objs.size) (d := d) ⟨_, gv, rfl, rfl⟩ datg ?_)
  refine ⟨_, _, _, _, _, _, _, rfl, Walks.dictValues (knd := mixKind X.prog X.w) (A := X.A.in1) (I.ok.hd hc) g.objs.size d (by rw [gz]; exact Nat.ne_of_lt (Nat.lt_succ_of_lt dlt)) vs ep,
    ⟨⟨_, Heap.get?_push_size _ rfl, rfl, rfl⟩, datg.keep fun b u z => Heap.get?_push_of_some _ z⟩, fun b hb => ?_, pos', CmpOf.ints_gt (fun i => ns.getD i 0) each, fun v g' tk hP hk => ?_⟩
  · show b < (g.push _).objs.size
    rw [Heap.size_push]
    rcases List.mem_cons.mp hb with z | hb
    · rw [z]; exact Nat.lt_succ_self _
    · rw [List.mem_singleton.mp hb, gz]
      exact Nat.lt_succ_of_lt (Nat.lt_succ_of_lt dlt)
  · obtain ⟨tk', rfl⟩ := each _ v hP
    obtain ⟨b1, b2⟩ := argBest_gt (fun i => ns.getD i 0) (vs.length - 1)
    refine ⟨.int _, H1, I1.kept (t' := tk) fun b u z => hk b u (fun hmem => ?_) (Heap.get?_push_of_some _ (kp b u z)), ⟨tk', rfl⟩, q _ ?_ fun j hj => ?_⟩
    · have z1 : b = g.objs.size := List.mem_singleton.mp hmem
      have z2 := Heap.lt_size z
      rw [z1, gz] at z2
      exact absurd z2 (Nat.not_lt.mpr (Nat.le_succ _))
    · have hb : argBest (fun i j => decide (ns.getD i 0 > ns.getD j 0)) (vs.length - 1) < ns.length := by omega
      rw [List.getD_eq_getElem?_getD, List.getElem?_eq_getElem hb]
      exact List.getElem_mem hb
    · obtain ⟨i, hi, z⟩ := List.mem_iff_getElem.mp hj
      have z2 : ns.getD i 0 = j := by rw [List.getD_eq_getElem?_getD, List.getElem?_eq_getElem hi, ← z] <;> rfl
      rw [← z2]
      exact b2 i (by omega)
def dMaxV : D → Option Val
  | .dic ks vs => if kindK ks = true then match intsD vs with
    | some ns => (maxL ns).map fun k => .d (.int k)
    | none => none else none
  | _ => none
theorem s_maxV (hc : X.calm = true) (hm : X.mg "max" = none) (ho : SE X W o xo) (hg : Gl X "max" := by rfl) (hbase : attributeBase o "values" X.env (eval o X.env) = eval o X.env := by rfl) (hline : (apos.endLine == mpos.line) = true := by rfl)
    (hse : starEach [Expr.Call (.Attribute o "values" apos) [] [] mpos] X.env = [(false, eval (Expr.Call (.Attribute o "values" apos) [] [] mpos) X.env)] := by rfl) : SE X W (.Call (.Name "max" p) [.Call (.Attribute o "values" apos) [] [] mpos] [] pos) (eD dMaxV xo) := ⟨fun M m σ H env ph r er Q q =>
  tW_of (pe_maxVals hc hg hm tW_pe hbase hline hse) (by
  refine ho.bind r er q fun va ph1 v1 H1 fr1 r1 er1 rv1 _ q1 => ?_
  split at q1
  · rename_i d ed
    obtain ⟨val, ev, g⟩ := Post.of (Q := Q) (M := M) (m := m) (H := H1) (X := X) (W := W) (σ := σ) (o := dMaxV d) (ph := ph1) (Post.mono (fun _ _ g => GE.at fr1 r1 g) q1)
    cases d with
    | dic ks vs =>
      obtain ⟨a, rfl, c⟩ := cr_dic (rv1.cr r1 ed)
      have ev : (if kindK ks = true then match intsD vs with
        | some ns => (maxL ns).map fun k => Val.d (.int k)
        | none => none else none) = some val := ev
      split at ev
      · rename_i hk
        obtain ⟨kvs, h1, h2, h3⟩ := dicK_of c hk
        cases hi : intsD vs with
        | none => rw [hi] at ev; cases ev
        | some ns =>
          rw [hi] at ev
          have ev : (maxL ns).map (fun k => Val.d (.int k)) = some val := ev
          cases hx : maxL ns with
          | none => rw [hx] at ev; cases ev
          | some k =>
            rw [hx] at ev
            cases ev
            refine ⟨a, kvs, ns, rfl, h1, intsD_rep hi h3, fun z => (by subst z; cases hx), fun m m1 m2 => ?_⟩
            have := maxL_is hx m1 m2
            subst this
            exact g.int r1
      · cases ev
    | _ => cases ev
  · exact q1.elim)⟩
/-! ### sorted(d, reverse=True) -/
theorem cr_sortedRevD (hcalm : X.calm = true) : CallRK X (.builtin "sorted") [Str.ofString "reverse"] (fun vs zs H Q => ∃ (d : Addr) (kvs : List (Key × V)) (ks : List Int), vs = [V.ref d] ∧ zs = [.bl true] ∧ H d = some (.dK kvs) ∧ kvs.map (·.1) = ks.map Sum.inl ∧
    ∀ (ys : List Int) (p : Addr), ys.Perm ks → ys.Pairwise (· ≥ ·) → H p = none → Q (.ref p) (upd H p (.lst (ys.map V.int)))) := by
  intro pins t σ H vs zs us ws Q I r rz h
  obtain ⟨d, kvs, ks, rfl, rfl, hd, hks, q⟩ := h
  obtain rfl := Vals.ref1 r
  obtain ⟨w1, rfl, e1⟩ := vals1 rz
  obtain rfl : w1 = Value.bool true := e1
  obtain ⟨z, lo, rs, rel, dd⟩ := dk_of I.hok hd
  obtain ⟨ep, hat⟩ := dd.dictAt
  have hkeys : rs.map (·.1) = ks.map Sum.inl := rel.keys.symm.trans hks
  have hl : rs.length = ks.length := by
    have y := congrArg List.length hkeys
    rwa [List.length_map, List.length_map] at y
  have hz : rs.length ≤ sizeLine := by rw [← rel.length]; exact z
  refine PyProof.Rows.call_function_entry_kw PyProof.Rows.kind_sorted PyProof.Rows.plain_sorted PyProof.Rows.entry_sorted (PyProof.Rows.args_sorted_rev _ _) ?_
  unfold Builtin.«sorted»
  refine wpAny_bind (m := checkCount "sorted" 1 1 _) (wpAny_pure ?_)
  refine wpAny_bind (PySem.W.kdu_collect (A := X.A.in1) (PySem.W.kdl_dict (knd := mixKind X.prog X.w) (kvs := rs) (ep := ep) lo) (I.ok.hd hcalm) hat hz fun g tk acc hk hacc => ?_)
  have hal : acc.toList.length = ks.length := by rw [Array.length_toList, hacc.1, hl]
  have hS : IntsAre acc.toList ks := ints_each hal fun j v y => by
    obtain ⟨k, x, y1, y2⟩ := hacc.2 j v (by rw [← Array.getElem?_toList]; exact y)
    have y3 : (rs.map (·.1))[j]? = some k := by rw [List.getElem?_map, y1] <;> rfl
    rw [hkeys, List.getElem?_map] at y3
    obtain ⟨i, hi, y4⟩ := Option.map_eq_some_iff.mp y3
    subst y4
    rcases keyIs_shape (show keyIs (Sum.inl i) v = true from y2) with ⟨i', t', ek, ev⟩ | ⟨z, t', ek, ev⟩
    · cases ek
      exact ⟨i, t', hi, ev⟩
    · cases ek
  have I1 : Inv X pins σ H { t with heap := g, toks := tk } := I.kept hk
  refine wpAny_bind (wpAny_newList ?_ (by rw [hal, ← hl]; exact hz))
  have hoL : (g.push (seqObj "list" acc.toList.toArray 0)).get? g.objs.size = some (seqObj "list" acc.toList.toArray 0) := Heap.get?_push_size _ rfl
  show wpAny _ _ _ _ _ { t with heap := g.push (seqObj "list" acc.toList.toArray 0), toks := tk }
  refine wpAny_bind (wpAny_holding (PyProof.Rows.wpAny_call_entry_kw PyProof.Rows.slot_list_sort ⟨_, hoL, rfl⟩ PyProof.Rows.entry_list_sort ?_ (PyProof.Rows.args_list_sort_rev _ _)))
  refine SrtR.list_sort_ordR (b := true) SrtO.swo_int hoL (by rw [hal, ← hl]; exact hz) (fun h2 => SrtO.ints_sortable hS h2) fun out s1 s2 => ⟨_, rfl, ?_⟩
  obtain ⟨ys, k1, k2, k3⟩ := SrtR.ints_outR hS s1 s2
  obtain ⟨ep', he'⟩ := PyProof.Rows.sortedHeap_at (vs := acc.toList) (out := out.toArray.reverse) hoL
  have hlen : (ys.map V.int).length ≤ sizeLine := by
    rw [List.length_map, k2.length_eq, ← hl]
    exact hz
  refine wpAny_pure ⟨_, rfl, .ref g.objs.size, upd H g.objs.size (.lst (ys.map V.int)), I1.laid (t' := tk) (fun b u y => ?_) (Nat.le_refl _)
    (show ObjOk X.prog X.w _ _ _ (.lst (ys.map V.int)) from ⟨hlen, (out.toArray.reverse).toList, ep', vals_of_ints k1, by rw [Array.toArray_toList]; exact he'⟩), rfl, q ys _ k2 k3 (I1.hok.fresh (Nat.le_refl _))⟩
  have hb : b < g.objs.size := Heap.lt_size y
  show (PyProof.Rows.sortedHeap (g.push (seqObj "list" acc.toList.toArray 0)) g.objs.size acc.toList out.toArray.reverse).get? b = some u
  rw [PyProof.Rows.sortedHeap_old (Nat.ne_of_lt hb) (by rw [size_push']; exact Nat.lt_succ_of_lt hb)]
  exact Heap.get?_push_of_some _ y
def dSortDR : D → Option Val
  | .dic ks _ => (intsD ks).map fun ns => .own (.lst ((sortI ns).reverse.map .int))
  | _ => none
theorem ge_eq {xs ns : List Int} (p : xs.Perm ns) (h : xs.Pairwise (· ≥ ·)) : xs = (sortI ns).reverse := by
  have e : xs.reverse = sortI ns := le_eq ((List.reverse_perm xs).trans (p.trans (sortI_perm ns).symm)) (by rw [List.pairwise_reverse]; exact h) (sortI_sorted ns)
  rw [← e, List.reverse_reverse]
theorem keys_ints : ∀ {ns : List Int} {kvs : List (Key × V)}, (ns.map D.int).map keyOf = kvs.map (fun p => some p.1) → kvs.map (·.1) = ns.map Sum.inl
  | [], [], _ => rfl
  | [], _ :: _, h => by cases h
  | _ :: _, [], h => by cases h
  | n :: ns, p :: kvs, h => by
    have h' : keyOf (.int n) = some p.1 ∧ (ns.map D.int).map keyOf = kvs.map (fun p => some p.1) := by simpa using h
    rw [List.map_cons, List.map_cons, keys_ints h'.2]
    have : some (Sum.inl n : Key) = some p.1 := h'.1
    rw [← Option.some.inj this]
theorem s_sortDR {j : Nat} (hc : X.calm = true) (hm : X.mg "sorted" = none) (ha : SE X W a xa) (hg : Gl X "sorted" := by rfl) (hv : bootBuiltins "sorted" = some (.builtin "sorted") := by rfl)
    (he : starEach [a] X.env = (false, eval a X.env) :: starEach [] X.env := by rfl) (he2 : backTo pos (starEach [a] X.env) = (false, eval a X.env) :: backTo pos (starEach [] X.env) := by rfl) (hpl : (backTo pos (starEach [a] X.env)).any (·.1) = false := by rfl)
    (hall : (backToKw pos (keywordEach [⟨some "reverse", .Constant (.bool true) j p2, p3⟩] X.env)).all (·.1.isSome) = true := by rfl) (hnone : (backToKw pos (keywordEach [⟨some "reverse", .Constant (.bool true) j p2, p3⟩] X.env)).any (·.1.isNone) = false := by rfl)
    (hks : (backToKw pos (keywordEach [⟨some "reverse", .Constant (.bool true) j p2, p3⟩] X.env)).filterMap (·.1) = [Str.ofString "reverse"] := by rfl) :
    SE X W (.Call (.Name "sorted" p) [a] [⟨some "reverse", .Constant (.bool true) j p2, p3⟩] pos) (eD dSortDR xa) := ⟨fun M m σ H env ph r er Q q =>
  tW_of (pe_callBK (cr_sortedRevD hc) hg hm hv (pa_cons tW_pe pa_nil he) (pk_cons pe_bl pk_nil) (by decide) (by decide) he2 hpl hall hnone hks) (by
  refine ha.bind r er q fun va ph1 v1 H1 fr1 r1 er1 rv1 _ q1 => ?_
  split at q1
  · rename_i d ed
    obtain ⟨val, ev, g⟩ := Post.of (Q := Q) (M := M) (m := m) (H := H1) (X := X) (W := W) (σ := σ) (o := dSortDR d) (ph := ph1) (Post.mono (fun _ _ g => GE.at fr1 r1 g) q1)
    cases d with
    | dic ks vs =>
      obtain ⟨d, rfl, c⟩ := cr_dic (rv1.cr r1 ed)
      have ev' : (intsD ks).map (fun ns => Val.own (.lst ((sortI ns).reverse.map .int))) = some val := ev
      cases hi : intsD ks with
      | none => rw [hi] at ev'; cases ev'
      | some ns =>
        rw [hi] at ev'
        cases ev'
        obtain ⟨hk, hks⟩ := kindK_ints hi
        obtain ⟨kvs, h1, h2, h3⟩ := dicK_of c hk
        refine ⟨d, kvs, ns, rfl, rfl, h1, keys_ints (by rw [← hks]; exact h2), fun ys p3 hpm hpw hp3 => ?_⟩
        have e := ge_eq hpm hpw
        subst e
        exact GE.lst g r1 (reps_ints _) p3 hp3
    | _ => cases ev
  · exact q1.elim)⟩
end
end Pyp

/-! Calls by keywords, of a def out of a list; a dict of the module; pop as a value; setdefault. -/
namespace Pyp
open PySem PySem.Spec PyProof.Rows L2
theorem Vals.at {vs : List V} {us : List Value} (r : Vals vs us) : ∀ i : Nat, (vs[i]? = none ∧ us[i]? = none) ∨ ∃ v u, vs[i]? = some v ∧ us[i]? = some u ∧ RelV v u := by
  induction r with
  | nil => intro i; exact .inl ⟨by simp, by simp⟩
  | @cons a b as bs h t ih =>
    intro i
    cases i with
    | zero => exact .inr ⟨a, b, rfl, rfl, h⟩
    | succ i => simpa using ih i
theorem Vals.pick {vs : List V} {us : List Value} (r : Vals vs us) : ∀ perm : List Nat, Vals (Pyp.pick perm vs) (Pyp.pick perm us)
  | [] => .nil
  | i :: perm => by
    unfold Pyp.pick
    rw [List.filterMap_cons, List.filterMap_cons]
    rcases Vals.at r i with ⟨h1, h2⟩ | ⟨v, u, h1, h2, h3⟩
    · rw [h1, h2]; exact Vals.pick r perm
    · rw [h1, h2]; exact .cons h3 (Vals.pick r perm)
theorem RVs.at {K M m H0 H} : ∀ {xs : List Val} {vs : List V}, RVs K M m H0 H vs xs → ∀ i : Nat, (vs[i]? = none ∧ xs[i]? = none) ∨ ∃ v x, vs[i]? = some v ∧ xs[i]? = some x ∧ RV K M m H0 H v x
  | [], vs, h, i => by subst h; exact .inl ⟨by simp, by simp⟩
  | x :: xs, vs, ⟨w, ws, e, h1, h2⟩, i => by
    subst e
    cases i with
    | zero => exact .inr ⟨w, x, rfl, rfl, h1⟩
    | succ i => simpa using RVs.at h2 i
theorem RVs.pick {K M m H0 H} {xs : List Val} {vs : List V} (r : RVs K M m H0 H vs xs) : ∀ perm : List Nat, RVs K M m H0 H (Pyp.pick perm vs) (Pyp.pick perm xs)
  | [] => rfl
  | i :: perm => by
    unfold Pyp.pick
    rw [List.filterMap_cons, List.filterMap_cons]
    rcases RVs.at r i with ⟨h1, h2⟩ | ⟨v, u, h1, h2, h3⟩
    · rw [h1, h2]; exact RVs.pick r perm
    · rw [h1, h2]; exact ⟨_, _, rfl, h3, RVs.pick r perm⟩
section
variable {X : Cx} {W : WX} {a b c e k v o : Expr} {xa xb xc xe xk xv xo x : Ex} {pos p p2 p3 p4 apos cpos mpos kpos : Pos} {xs : Ax} {name : Str} {f : Fn} {lv nn : Nat}
/-! ### keywords -/
def tWK (X : Cx) (kws : List Keyword) : TA := fun σ H Q => ∀ (pos : Pos) pins s, Inv X pins σ H s → wpAny (model X.prog X.w) X.A (evalAll ((backToKw pos (keywordEach kws X.env)).map (·.2))) (AP X pins σ Q) X.xe s
theorem tWK_pk {kws : List Keyword} : PK X kws (tWK X kws) := ⟨fun pos pins s σ H Q I h => h pos pins s I⟩
theorem tWK_of {kws : List Keyword} {t : TA} {σ : L2.St} {H : Hp} {Q : List V → Hp → Prop} (h : PK X kws t) (q : t σ H Q) : tWK X kws σ H Q := fun pos pins s I => h.run pos pins s σ H Q I q
structure SK (X : Cx) (W : WX) (kws : List Keyword) (x : Ax) : Prop where
  run : ∀ M m σ H env ph, Rel (kx X) M m H ph → EnvR (kx X) M m σ H env → ∀ Q, Post X W M m σ H (GA X M m H Q) (x env ph) → tWK X kws σ H Q
theorem sk_nil : SK X W [] aNil := ⟨fun M m σ H env ph r er Q q => tWK_of pk_nil (q [] H Frame.refl r rfl)⟩
theorem sk_cons {kws : List Keyword} {nm : Option Str} (h : SE X W e x) (hs : SK X W kws xs) : SK X W (⟨nm, e, kpos⟩ :: kws) (aCons x xs) := ⟨fun M m σ H env ph r er Q q => tWK_of (pk_cons tW_pe tWK_pk) (by
  refine h.bind r er q fun v ph1 w H1 fr1 r1 er1 rv1 _ q1 => ?_
  refine hs.run M m σ H1 env ph1 r1 er1 _ ?_
  cases hx : xs env ph1 with
  | bad => rw [hx] at q1; exact q1.elim
  | exc c fs ph2 => rw [hx] at q1; exact q1
  | ok vs ph2 =>
    rw [hx] at q1
    intro ws H2 fr2 r2 rv2
    have q2 : GA X M m H Q (v :: vs) ph2 := q1
    exact q2 (w :: ws) H2 (fr1.trans fr2) r2 ⟨w, ws, rfl, rv1.keep r1 fr2, rv2.base fun _ z => fr1.back r1 z⟩)⟩
def eCallK (n0 nn : Nat) (perm : List Nat) (f : Fn) (xs : Ax) : Ex := fun env ph => (xs env ph).bind fun vs ph1 => if vs.length = n0 ∧ (pick perm vs).length = nn then match argsOf (pick perm vs) with
  | some as => f as ph1
  | none => .bad else .bad
theorem run_kw {E : L2.St → XK} {CX : CXT} {g : Addr} {fd : FuncData} {ps ks : List Str} {perm : List Nat} {sp : Sp} {pins : List (Addr × Obj)} {σ : L2.St} {H : Hp} {s : Shared} {Q : VK} {ws : List Value} {zs : List V} (F : FnOk X.prog X.w X.K X.mg X.base CX lv g fd ps sp) (hr : Room lv X.A) (hb : KW fd ps ks perm) (hx : PassesAt CX X σ (E σ))
    (I : Inv X pins σ H s) (r : Vals zs ws) (hl : zs.length = ks.length) (h : sp (pick perm zs) H Q (E σ)) : wpAny (model X.prog X.w) X.A (call (.ref g) [] (ks.zip ws)) (EP X pins σ Q) X.xe s := by
  refine wpAny_call (codeAny_mono (F.run X.A X.stack s H ⟨[], ks.zip ws⟩ (pick perm ws) (pick perm zs) Q (E σ) hr I.env0 (.of_eq (hb ws (by rw [← r.length]; exact hl))) (Vals.pick r perm) h) fun rr s' hq => ?_)
  cases rr with
  | error e => exact hx pins H s e s' I hq
  | ok fl =>
    cases fl with
    | ret u => exact I.after hq
    | next => exact hq.elim
    | brk => exact hq.elim
    | cont => exact hq.elim
theorem s_callK {kwl : List (List Str × List Nat)} {kws : List Keyword} (F : FnAt X.prog X.w X.K X.mg X.base lv name nn f kwl) (hr : Room lv X.A) (tk : Takes X W) (ks : List Str) (perm : List Nat) (hmem : (ks, perm) ∈ kwl) (ha : SK X W kws xs) (n0 : Nat) (h0 : ks.length = n0 := by rfl) (hg : Gl X name := by rfl) (hdb : (name == ("__debug__" : Str)) = false := by decide)
    (hall : (backToKw pos (keywordEach kws X.env)).all (·.1.isSome) = true := by rfl) (hks : (backToKw pos (keywordEach kws X.env)).filterMap (·.1) = ks := by rfl)
    (hpl : ((backTo pos (starEach [] X.env)).any (·.1) || (backToKw pos (keywordEach kws X.env)).any (·.1.isNone)) = false := by rfl) : SE X W (.Call (.Name name p) [] kws pos) (eCallK n0 nn perm f xs) := by
  obtain ⟨g, fd, ps, FO, hm, hk, hb, hkw⟩ := F.ex
  refine ⟨fun M m σ H env ph r er Q q pins s I => ?_⟩
  refine wpAny_Call_Name_kw (ld_glob I hg hm ?_ hdb)
  have q' : Post X W M m σ H (GE X M m H Q) ((xs env ph).bind fun vs ph1 => if vs.length = n0 ∧ (pick perm vs).length = nn then match argsOf (pick perm vs) with
    | some as => f as ph1
    | none => .bad else .bad) := q
  have run : tWK X kws σ H fun zs H1 => zs.length = ks.length ∧ spF X.mg (kx X) nn f (pick perm zs) H1 Q (WE W σ) := by
    refine ha.run M m σ H env ph r er _ ?_
    cases hx : xs env ph with
    | bad => rw [hx] at q'; exact q'.elim
    | exc c fs ph1 => rw [hx] at q'; exact q'
    | ok vals ph1 =>
      rw [hx] at q'
      intro vs H1 fr r1 rv
      have q2 : Post X W M m σ H (GE X M m H Q) (if vals.length = n0 ∧ (pick perm vals).length = nn then match argsOf (pick perm vals) with
        | some as => f as ph1
        | none => .bad else .bad) := q'
      split at q2
      · rename_i hl
        have rv2 := RVs.pick rv perm
        split at q2
        · rename_i as ea
          exact ⟨by rw [rv.length, hl.1, h0], call_core tk (by rw [rv2.length]; exact hl.2) fr r1 rv2 ea (Post.step fr q2)⟩
        · exact q2.elim
      · exact q2.elim
  refine PySem.W.callWith_KW0 (h₀ := X.base) I.ok.mod.kin hk hall (thn (run pos pins s I) fun ws s2 ⟨zs, H2, I2, rz, hl, q2⟩ => ⟨I2.kIn, ?_⟩) hpl
  rw [hks]
  exact run_kw (E := WE W) FO hr (hkw _ hmem) (passAt tk σ) I2 rz hl q2
/-! ### a def out of a list, called -/
structure SFs (X : Cx) (lv : Nat) (es : List Expr) (fs : List Fn) : Prop where
  ex : ∃ vs : List V, (∃ t, PA X es t ∧ ∀ σ H Q, Q vs H → t σ H Q) ∧ vs.length = fs.length ∧ ∀ (i : Nat) (v : V) (f : Fn), vs[i]? = some v → fs[i]? = some f →
    ∃ (g : Addr) (fd : FuncData) (ps : List Str), v = .ref g ∧ FnOk X.prog X.w X.K X.mg X.base (L2.CX X.prog X.w) lv g fd ps (spF X.mg (kx X) 0 f) ∧ PySem.W.keepIn X.K (.ref g) = true ∧ Binds X.K fd ps []
theorem sf_nil : SFs X lv [] [] := ⟨[], ⟨_, pa_nil, fun _ _ _ q => q⟩, rfl, fun i v f h => by simp at h⟩
theorem sf_cons {es : List Expr} {fs : List Fn} {j : Nat} {kws : List (List Str × List Nat)} (F : FnAt X.prog X.w X.K X.mg X.base j name 0 f kws) (hj : j ≤ lv) (hs : SFs X lv es fs) (hg : Gl X name := by rfl) (hdb : (name == ("__debug__" : Str)) = false := by decide)
    (hst : starEach (.Name name p :: es) X.env = (false, eval (.Name name p) X.env) :: starEach es X.env := by rfl) : SFs X lv (.Name name p :: es) (f :: fs) := by
  obtain ⟨g, fd, ps, FO, hm, hk, hb, _⟩ := F.ex
  obtain ⟨vs, ⟨t, ht, hq⟩, hl, hv⟩ := hs.ex
  refine ⟨.ref g :: vs, ⟨_, pa_cons (pe_glob (v := .ref g) hg hm rfl hdb) ht hst, fun σ H Q q => hq _ _ _ q⟩, by simp [hl], fun i v f' h1 h2 => ?_⟩
  cases i with
  | zero =>
    cases h1; cases h2
    exact ⟨g, fd, ps, rfl, FO.mono hj, hk, hb⟩
  | succ i => exact hv i v f' (by simpa using h1) (by simpa using h2)
def eOne (fs : List Fn) (x : Ex) : Ex := fun env ph => (x env ph).bind fun v ph1 => match v with
  | .d (.int i) => match atI fs i with
    | some f => f [] ph1
    | none => .bad
  | _ => .bad
theorem atI_same {α β : Type} {xs : List α} {ys : List β} {i : Int} {y : β} (hl : xs.length = ys.length) (h : atI ys i = some y) : ∃ (j : Nat) (x : α), xs[j]? = some x ∧ ys[j]? = some y ∧ atI xs i = some x := by
  unfold atI at h ⊢
  cases hk : ixN ys.length i with
  | none => rw [hk] at h; cases h
  | some j =>
    rw [hk] at h
    have h : ys[j]? = some y := h
    have hj := (List.getElem?_eq_some_iff.mp h).1
    refine ⟨j, xs[j]'(by omega), List.getElem?_eq_getElem _, h, ?_⟩
    have e : ixN xs.length i = some j := by rw [hl]; exact hk
    show (ixN xs.length i).bind (fun j => xs[j]?) = some (xs[j]'(by omega))
    rw [e]
    exact List.getElem?_eq_getElem _
theorem s_one_of {es : List Expr} {fs : List Fn} {pl ps' : Pos} (hf : SFs X lv es fs) (hlen : fs.length ≤ 1000) (hr : Room lv X.A) (tk : Takes X W) (ha : SE X W a xa) (hs : PlainIx a := by exact fun _ _ => rfl)
    (ht : eval (.Call (.Subscript (.List es pl) a ps') [] [] pos) X.env = (do callWith pos (← eval (.Subscript (.List es pl) a ps') X.env) [] (backTo pos (starEach [] X.env)) (backToKw pos (keywordEach [] X.env))) := by rfl) :
    SE X W (.Call (.Subscript (.List es pl) a ps') [] [] pos) (eOne fs xa) := by
  obtain ⟨vs, ⟨t, hpa, hq⟩, hl, hv⟩ := hf.ex
  refine ⟨fun M m σ H env ph r er Q q pins s I => ?_⟩
  rw [ht]
  refine wpAny_bind (thn ((pe_ix ix_seq (pe_lst hpa) tW_pe hs).run pins s σ H (fun v H1 => ∃ (g : Addr) (fd : FuncData) (ps : List Str) (f : Fn), v = .ref g ∧ FnOk X.prog X.w X.K X.mg X.base (L2.CX X.prog X.w) lv g fd ps (spF X.mg (kx X) 0 f) ∧ PySem.W.keepIn X.K (.ref g) = true ∧ Binds X.K fd ps [] ∧ spF X.mg (kx X) 0 f [] H1 Q (WE W σ)) I ?_) fun u s1 ⟨v, H1, I1, rv, g, fd, ps, f, ev, FO, hk, hb, q2⟩ => ?_)
  · refine hq _ _ _ ⟨by rw [hl, sizeLine_eq]; omega, fun z hz => ?_⟩
    have r1 := r.new (o := .lst vs) hz
    have f1 : Frame m H (upd H z (.lst vs)) := Frame.new hz
    have zm : z ∉ m := fun y => r.notM hz (r.sub z y)
    have q0 : Post X W M m σ H (GE X M m H Q) ((xa env ph).bind fun v ph1 => match v with
      | .d (.int i) => match atI fs i with
        | some f => f [] ph1
        | none => .bad
      | _ => .bad) := q
    refine ha.bind r1 (er.keep r f1) (Post.step f1 q0) fun val ph1 v H2 f2 r2 er2 rv2 ro2 q2 => ?_
    clear ro2
    split at q2
    · rename_i i
      split at q2
      · rename_i f hi
        obtain ⟨j, w, e1, e2, e3⟩ := atI_same hl hi
        obtain ⟨g, fd, ps, rfl, FO, hk, hb⟩ := hv j w f e1 e2
        have hz2 := f2 z _ upd_same zm
        refine .inl ⟨z, vs, i, .ref g, rfl, rv_int rv2, SqL.of hz2, e3, g, fd, ps, f, rfl, FO, hk, hb, ?_⟩
        exact call_core (vals := []) tk rfl (f1.trans f2) r2 rfl rfl q2
      · exact q2.elim
    · exact q2.elim
  · subst ev
    obtain rfl : u = Value.ref g := rv
    exact PySem.W.callWith_K0 I1.kIn hk (run_fnS (us := []) (E := WE W) FO hr hb (passAt tk σ) I1 .nil q2)
/-! ### a dict of the module -/
def tblAt : List (List Nat × D) → List Nat → Option D
  | [], _ => none
  | (k, d) :: r, x => if k = x then some d else tblAt r x
structure KDicAt (w : World) (K : PySem.W.Frag) (mg : Str → Option Value) (name : Str) (tbl : List (List Nat × D)) : Prop where
  ex : ∃ a, mg name = some (.ref a) ∧ ∀ q ∈ tbl, ∃ v, KDct K w a ⟨q.1.toArray⟩ v ∧ ∀ (M : Addr → Prop) (H : Hp), Rep ⟨K, w⟩ M H q.2 v
theorem tblAt_mem : ∀ {tbl : List (List Nat × D)} {x : List Nat} {d : D}, tblAt tbl x = some d → (x, d) ∈ tbl
  | [], x, d, h => by cases h
  | (k, e) :: r, x, d, h => by
    rw [tblAt] at h
    split at h
    · rename_i hk
      cases h
      subst hk
      exact List.mem_cons_self
    · exact List.mem_cons_of_mem _ (tblAt_mem h)
def eKDic (tbl : List (List Nat × D)) (x : Ex) : Ex := fun env ph => (x env ph).bind fun v ph1 => match v with
  | .d (.str s) => Res.of ((tblAt tbl s).map .d) ph1
  | _ => .bad
theorem s_kdic {tbl : List (List Nat × D)} (T : KDicAt X.w X.K X.mg name tbl) (ha : SE X W a xa) (hs : PlainIx a := by exact fun _ _ => rfl) (hg : Gl X name := by rfl) (hdb : (name == ("__debug__" : Str)) = false := by decide) : SE X W (.Subscript (.Name name p) a pos) (eKDic tbl xa) := by
  obtain ⟨z, hm, ht⟩ := T.ex
  refine ⟨fun M m σ H env ph r er Q q => tW_of (pe_ix ix_kdict (pe_glob (v := .ref z) hg hm rfl hdb) tW_pe hs) ?_⟩
  have q' : Post X W M m σ H (GE X M m H Q) ((xa env ph).bind fun v ph1 => match v with
    | .d (.str s) => Res.of ((tblAt tbl s).map .d) ph1
    | _ => .bad) := q
  refine ha.bind r er q' fun val ph1 v H1 f1 r1 er1 rv1 ro1 q1 => ?_
  clear ro1
  split at q1
  · rename_i s
    cases hl : tblAt tbl s with
    | none => rw [hl] at q1; exact q1.elim
    | some d =>
      rw [hl] at q1
      obtain ⟨w, k1, k2⟩ := ht _ (tblAt_mem hl)
      rw [RV, Rep] at rv1
      subst rv1
      exact ⟨z, _, w, rfl, rfl, k1, GE.dat (GE.at f1 r1 q1) r1 (k2 M H1)⟩
  · exact q1.elim
/-! ### t = xs.pop() -/
def sPopG (j : Nat) (g : Gx) : Sx := fun env ph => match env[j]? with
  | some (some (.own (.lst ds))) => match ds[ds.length - 1]? with
    | some d => match g d (env.set j (some (.own (.lst ds.dropLast)))) with
      | some env1 => .nx env1 ph
      | none => .bad
    | none => .bad
  | _ => .bad
theorem Reps.dropLast {K : Kx} {M : Addr → Prop} {H : Hp} {ds : List D} {xs : List V} (h : Reps K M H ds xs) : Reps K M H ds.dropLast xs.dropLast := by
  rw [List.dropLast_eq_take, List.dropLast_eq_take, h.length]
  exact h.take _
theorem st_popG {tg : Expr} {g : Gx} {sl : List Nat} {nm u : Str} (slot : Slot "list" nm "list.pop") (hty : typeOf (.builtin "list.pop") = pure (.type "method_descriptor")) (j : Nat) (hg : SG X tg g sl) (hN : X.N[j]? = some u := by rfl)
    (hv : Vis X.env.scope u := by first | exact Or.inl rfl | exact Or.inr (Or.inl rfl) | exact Or.inr (Or.inr rfl)) (hd : (u == ("__debug__" : Str)) = false := by decide) (hcd : (u == ("__classdict__" : Str)) = false := by decide)
    (hs : swapsWithSole [tg] (.Call (.Attribute (.Name u p) nm apos) [] [] cpos) pos.line X.env = pure false := by rfl) (hw : swappedStores [tg] (.Call (.Attribute (.Name u p) nm apos) [] [] cpos) X.env = pure none := by rfl)
    (h1 : (assignEach [tg] X.env).map (·.2) = [assign tg X.env] := by rfl)
    (hbase : attributeBase (.Name u p) nm X.env (eval (.Name u p) X.env) = eval (.Name u p) X.env := by rfl) (hline : (apos.endLine == cpos.line) = true := by rfl) :
    SS X W (.Assign [tg] (.Call (.Attribute (.Name u p) nm apos) [] [] cpos) pos) (sPopG j g) := ⟨fun M0 H0 hd' M m σ H env ph s D q =>
  tWS_of (ps_asg (pe_bm0 F.plainAttrs_list slot hty mt_pop (pe_var hN hv hd hcd) hbase hline) tWG_pg hs hw h1) (by
    unfold sPopG at q
    split at q
    · rename_i ds ei
      obtain ⟨w, e1, a', rfl, ma, am, xsv, hH, rs⟩ := s.er.2 j _ ei
      cases hlast : ds[ds.length - 1]? with
      | none => rw [hlast] at q; exact q.elim
      | some d =>
        rw [hlast] at q
        obtain ⟨y, ey, ry⟩ := rs.get hlast
        have q2 : PostS X W M0 H0 hd' m D (match g d (env.set j (some (.own (.lst ds.dropLast)))) with
          | some env1 => .nx env1 ph
          | none => .bad) := q
        cases hgd : g d (env.set j (some (.own (.lst ds.dropLast)))) with
        | none => rw [hgd] at q2; exact q2.elim
        | some env1 =>
          rw [hgd] at q2
          refine ⟨_, e1, .inl ⟨rfl, xsv, SqL.of hH⟩, a', xsv, y, rfl, rfl, hH, by rw [rs.length]; exact ey, ?_⟩
          have cc : Cont (kx X) M (upd H a' (.lst xsv.dropLast)) a' (.lst ds.dropLast) := ⟨xsv.dropLast, upd_same, Reps.keep (upd_keep ma) _ _ rs.dropLast⟩
          have s2 := s.mutOwn (y := .lst ds.dropLast) ei e1 (fun c o hc z => by rw [upd_ne hc]; exact z) cc
          exact hg.run M m σ _ _ ph d y env1 s2.rel s2.er s2.len (Rep.keep (upd_keep ma) _ _ ry) hgd _ fun σ' H' f' r' er' c => q2 M σ' H' ((s2.keep f' r').chg c er')
    · exact q.elim)⟩
/-! ### d[i] = e.setdefault(k, x) -/
theorem putD_core {i : Nat} {d : D} {vv : V} (ha : SE X W a xa) {M0 H0 hd' M m σ H env ph} (s : StR (kx X) M0 H0 hd' M m σ H env ph) (r : Rep (kx X) M H d vv) {D : Ends} (q : PostS X W M0 H0 hd' m D (sPutD i xa (eC d) env ph)) : gSub (tVar i) (tW X a) (rSetD X) vv σ H D.nx := by
  unfold sPutD at q
  split at q
  · rename_i ks vs ei
    obtain ⟨w, e1, a', rfl, ma, am, c⟩ := s.er.2 i _ ei
    have q1 : PostS X W M0 H0 hd' m D ((xa env ph).bindS env fun k ph2 => match (Val.d d).dat, k.dat with
      | some e, some d => if fitK ks d = true ∧ ks.length < 1000000 then .nx (env.set i (some (.own (.dic (putKs ks d) (putVs ks vs d e))))) ph2 else .bad
      | _, _ => .bad) := q
    refine ⟨_, e1, ha.bindS s q1 fun kv ph2 kw H2 fr2 s2 rv2 _ q2 => ?_⟩
    split at q2
    · rename_i ev kd ed ek
      cases ed
      split at q2
      · rename_i hf
        have c2 : Cont (kx X) M H2 a' (.dic ks vs) := Cont.keep (fr2.keep s.rel) (fun o z => fr2 a' o z am) c
        refine ⟨M, a', ks, vs, kd, d, rfl, ma, c2, rv2.dat ek, Rep.keep (fr2.keep s.rel) _ _ r, hf.1, hf.2, fun ob dc => ?_⟩
        exact q2 M σ _ (s2.mutOwn ei e1 (fun b o hb z => by rw [upd_ne hb]; exact z) dc)
      · exact q2.elim
    · exact q2.elim
  · exact q.elim
def IsDicX (X : Cx) (H : Hp) (a : Addr) : Prop := ∀ pins σ s, Inv X pins σ H s → s.TypeIs (.ref a) "dict" ∧ (∀ b, Value.ref a = .ref b → ∃ ob, s.heap.get? b = some ob ∧ ob.dict = none)
def rDM2 (X : Cx) (id : String) (a : Addr) (y z : V) (H : Hp) (Q : VK) : Prop := ∀ pins s σ u r, Inv X pins σ H s → RelV y u → RelV z r → wpAny (model X.prog X.w) X.A (call (.builtin id) [.ref a, u, r]) (EP X pins σ Q) X.xe s
def tDM2 (X : Cx) (id : String) (td ty tx : TE) : TE := fun σ H Q => td σ H fun x H1 => ∃ a, x = .ref a ∧ IsDicX X H1 a ∧ ty σ H1 fun y H2 => tx σ H2 fun z H3 => rDM2 X id a y z H3 Q
theorem pe_dm2 {id : String} {nm : Str} {td ty tx : TE} (slot : Slot "dict" nm id) (hty : typeOf (.builtin id) = pure (.type "method_descriptor")) (ho : PE X o td) (he : PE X a ty) (hf : PE X b tx) (m : M2 X o nm apos a b cpos) : PE X (.Call (.Attribute o nm apos) [a, b] [] cpos) (tDM2 X id td ty tx) := by
  refine ⟨fun pins s σ H Q I h => ?_⟩
  refine wpAny_Call_method m.base m.few m.line PySem.F.plainAttrs_dict slot hty (thn (ho.run pins s σ H _ I h) fun u s1 ⟨x, H1, I1, rx, d, ex, isd, q1⟩ => ?_)
  subst ex
  obtain rfl : u = Value.ref d := rx
  obtain ⟨t1, t2⟩ := isd pins σ s1 I1
  refine ⟨t1, t2, ?_⟩
  rw [m.trees]
  refine Calls.callWith_builtin rfl (Calls.evalArgs_plain (Calls.spliced_cons (thn (he.run pins s1 σ H1 _ I1 q1) fun iv s2 ⟨y, H2, I2, ry, q2⟩ =>
    Calls.spliced_cons (thn (hf.run pins s2 σ H2 _ I2 q2) fun fv s3 ⟨z, H3, I3, rz, q3⟩ => Calls.spliced_nil ?_))))
  exact q3 pins s3 σ iv fv I3 ry rz
/-- setdefault where the keys are tuples -/
theorem sd_n {M : Addr → Prop} {H : Hp} {z : Addr} {ks vs : List D} {d e : D} {y w : V} {Q : VK} (hu : X.A.units + 65 < cLine) (hM : M z) (c : DicC (kx X) M H z ks vs) (rd : Rep (kx X) M H d y) (re : Rep (kx X) M H e w) (hk : kindN ks = true) (hd : (keyN d).isSome = true) (hl : ks.length < 1000000)
    (h1 : ∀ x, lookD ks vs d = some x → ∀ v, Rep (kx X) M H x v → Q v H) (h2 : lookD ks vs d = none → ∀ ob, DicC (kx X) M (upd H z ob) z (putKs ks d) (putVs ks vs d e) → Q w (upd H z ob)) : rDM2 X "dict.setdefault" z y w H Q := by
  intro pins t σ iv u I ri rw'
  obtain ⟨k, hkk⟩ := Option.isSome_iff_exists.mp hd
  obtain ⟨xs, ys, dn⟩ := dn_at I c hk
  obtain ⟨b, rfl, hb⟩ := keyN_is I rd hkk
  obtain rfl : iv = .ref b := ri
  obtain ⟨l1, l2⟩ := look_n hkk ks vs xs dn.ek dn.rv
  have hxl : xs.length = ks.length := by have := congrArg List.length dn.ek; simpa using this.symm
  have hz : ys.length ≤ sizeLine := by rw [← Paired.length dn.pr]; exact dn.few
  have hl2 : (putX xs k b w).length ≤ sizeLine := by
    have := putX_len xs k b w
    rw [sizeLine_eq]; omega
  have mu : Mut (H z) := by
    rcases dn.at_ with ⟨_, e⟩ | ⟨_, e⟩ <;> (rw [e]; exact True.intro)
  have same := atX_val dn.pr k
  refine call_setdefault_heap (hsz := hz) (room8 hu) hb dn.sys dn.dd (fun p hp => ?_) fun hn g dd' hs => ?_
  · cases hlk : lookD ks vs d with
    | none =>
      rw [l2 hlk, hp] at same
      exact same.elim
    | some x =>
      obtain ⟨v, ev, rv⟩ := l1 x hlk
      obtain ⟨w', hw, rw2⟩ := RelO.some_of (v := v) (o := (atKey ys k).map (·.2)) (by rw [← ev]; exact same)
      rw [hp] at hw
      cases hw
      exact ⟨v, H, I.tok _, rw2, h1 x hlk v rv⟩
  · cases hlk : lookD ks vs d with
    | some x =>
      obtain ⟨v, ev, rv⟩ := l1 x hlk
      rw [ev, hn] at same
      exact same.elim
    | none =>
      have he : ∃ q, g.get? z = some q := let ⟨q, _, _, hq, _⟩ := dd'; ⟨q, hq⟩
      have dd2 := dd'
      obtain ⟨o, es, ep, g1, g2, g3, g4, _, g5⟩ := dd2
      have ok : ∀ H', ObjOk X.prog X.w H' g z (DicO X.w z (putX xs k b w) o) := fun H' =>
        ⟨⟨hl2, dn.sys, _, put_pair dn.pr k b rw', es, ep, g1, g2, g3, g4, g5⟩, ⟨o, g1⟩, fun c1 c2 p kk => by
          obtain ⟨hz, hs, ys, pr, es, ep, h1, h2, h3, h4, h5⟩ := p
          exact ⟨hz, hs, ys, pr, es, ep, kk o h1, h2, h3, h4, h5⟩⟩
      obtain ⟨p1, p3, p2⟩ := put_n (K := kx X) (M := M) (H := upd H z (DicO X.w z (putX xs k b w) o)) (v := w) hkk (Rep.keep (upd_keep hM) _ _ rd) (Rep.keep (upd_keep hM) _ _ re) ks vs xs dn.ek (Reps.keep (upd_keep hM) _ _ dn.rk) (Reps.keep (upd_keep hM) _ _ dn.rv)
      exact ⟨w, _, d_write I mu hs he (ok _), rw', h2 hlk _ (.inr ⟨_, putKs_ne ks d, ⟨o, upd_same⟩, p1, p3, p2⟩)⟩
def sSetD (i j : Nat) (ix k x : Ex) : Sx := fun env ph => match env[j]? with
  | some (some (.own (.dic ks vs))) => (k env ph).bindS env fun kv ph1 => (x env ph1).bindS env fun xv ph2 => match kv.dat, xv.dat with
    | some d, some e => if (kindN ks && (keyN d).isSome) = true ∧ ks.length < 1000000 then match lookD ks vs d with
      | some y => sPutD i ix (eC y) env ph2
      | none => sPutD i ix (eC e) (env.set j (some (.own (.dic (putKs ks d) (putVs ks vs d e))))) ph2 else .bad
    | _, _ => .bad
  | _ => .bad
theorem st_setD (hu : X.A.units + 65 < cLine) (i j : Nat) {n u : Str} (hty : typeOf (.builtin "dict.setdefault") = pure (.type "method_descriptor")) (hix : SE X W c xc) (hk : SE X W a xa) (hx : SE X W b xb) (hN : X.N[i]? = some n := by rfl) (hN2 : X.N[j]? = some u := by rfl)
    (hv : Vis X.env.scope n := by first | exact Or.inl rfl | exact Or.inr (Or.inl rfl) | exact Or.inr (Or.inr rfl)) (hv2 : Vis X.env.scope u := by first | exact Or.inl rfl | exact Or.inr (Or.inl rfl) | exact Or.inr (Or.inr rfl))
    (hd : (n == ("__debug__" : Str)) = false := by decide) (hcd : (n == ("__classdict__" : Str)) = false := by decide) (hd2 : (u == ("__debug__" : Str)) = false := by decide) (hcd2 : (u == ("__classdict__" : Str)) = false := by decide)
    (m : M2 X (.Name u p3) "setdefault" apos a b cpos := by exact ⟨rfl, rfl, rfl, rfl⟩)
    (hs : swapsWithSole [.Subscript (.Name n p) c p2] (.Call (.Attribute (.Name u p3) "setdefault" apos) [a, b] [] cpos) pos.line X.env = pure false := by rfl) (hw : swappedStores [.Subscript (.Name n p) c p2] (.Call (.Attribute (.Name u p3) "setdefault" apos) [a, b] [] cpos) X.env = pure none := by rfl)
    (h1 : (assignEach [.Subscript (.Name n p) c p2] X.env).map (·.2) = [assign (.Subscript (.Name n p) c p2) X.env] := by rfl)
    (hpl : ∀ v, assign (.Subscript (.Name n p) c p2) X.env v = (do
      let ov ← holding [v] (eval (.Name n p) X.env)
      let iv ← holding [v, ov] (eval c X.env)
      standAt p2
      holding [v, ov, iv] (setItem ov iv v)
      release [v, ov, iv] []) := by intro _; rfl) : SS X W (.Assign [.Subscript (.Name n p) c p2] (.Call (.Attribute (.Name u p3) "setdefault" apos) [a, b] [] cpos) pos) (sSetD i j xc xa xb) := ⟨fun M0 H0 hd' M mm σ H env ph s D q =>
  tWS_of (ps_asg (pe_dm2 PySem.F.slot_dict_setdefault hty (pe_var hN2 hv2 hd2 hcd2) tW_pe tW_pe (by assumption)) (pg_sub (pe_var hN hv hd hcd) tW_pe (set_dic hu) hpl) hs hw h1) (by
    unfold sSetD at q
    split at q
    · rename_i ks vs ej
      obtain ⟨w, e1, z, rfl, mz, zm, cz⟩ := s.er.2 j _ ej
      refine ⟨_, e1, z, rfl, fun pins σ' s' I => ⟨(dic_typeIs I (show DicC (kx X) M H z ks vs from cz)).1, (dic_typeIs I (show DicC (kx X) M H z ks vs from cz)).2.1⟩, hk.bindS s q fun kv ph1 kw H1 f1 s1 rv1 _ q1 => hx.bindS s1 q1 fun xv ph2 xw H2 f2 s2 rv2 _ q2 => ?_⟩
      split at q2
      · rename_i d e ed ee
        split at q2
        · rename_i hc
          have hc1 := hc.1
          rw [Bool.and_eq_true] at hc1
          have cz2 : DicC (kx X) M H2 z ks vs := (show Cont (kx X) M H2 z (.dic ks vs) from Cont.keep ((f1.trans f2).keep s.rel) (fun o y => (f1.trans f2) z o y zm) cz)
          have rd : Rep (kx X) M H2 d kw := (rv1.keep s1.rel f2).dat ed
          have re : Rep (kx X) M H2 e xw := rv2.dat ee
          refine sd_n hu mz cz2 rd re hc1.1 hc1.2 hc.2 (fun x hl v rx => ?_) fun hl ob dc => ?_
          · rw [hl] at q2
            exact putD_core hix s2 rx q2
          · rw [hl] at q2
            have s3 := s2.mutOwn (y := .dic (putKs ks d) (putVs ks vs d e)) ej e1 (fun b o hb y => by rw [upd_ne hb]; exact y) dc
            exact putD_core hix s3 (Rep.keep (upd_keep mz) _ _ re) q2
        · exact q2.elim
      · exact q2.elim
    · exact q.elim)⟩
end
end Pyp

/-! The items of a dict with tuple keys; a dict comprehension over them; len of a dict. -/
namespace Pyp
open PySem PySem.Spec PyProof.Rows L2
/-- the pairs of the dict at d, the object o -/
def ItiN (w : World) (d : Addr) (o : Obj) (xs : List (NestedKey × Addr × V)) : It :=
  ⟨fun i H => H d = some (DicO w d xs o) ∧ i < xs.length, fun i H x H' => ∃ T k b v, xs[i]? = some (k, b, v) ∧ x = .ref T ∧ H T = none ∧ H' = upd H T (.tup [.ref b, v]), fun i H => H d = some (DicO w d xs o) ∧ xs.length ≤ i⟩
section
variable {P : Program} {w : World} {K : PySem.W.Frag} {d : Addr} {o : Obj} {es : Array DictEntry} {ep : Nat}
theorem dicO_at {X : Cx} {pins : List (Addr × Obj)} {σ : L2.St} {H : Hp} {s : Shared} {xs : List (NestedKey × Addr × V)} (I : Inv X pins σ H s) (e : H d = some (DicO X.w d xs o)) :
    xs.length ≤ sizeLine ∧ (d == sysModules) = false ∧ s.heap.get? d = some o ∧ o.ExactDict ∧ ∃ es ep, o.data = .dict es ep ∧ es.size = xs.length ∧ ∀ (i : Nat) (k : NestedKey) (b : Addr) (v : V), xs[i]? = some (k, b, v) → ∃ en, es[i]? = some en ∧ en.key = .ref b ∧ RelV v en.val := by
  obtain ⟨⟨hz, hs, ys, pr, es, ep, h1, h2, h3, h4, h5⟩, _⟩ := I.hok d _ e
  have hl : es.size = xs.length := by
    have := congrArg List.length h4
    rw [List.length_map, Array.length_toList] at this
    rw [this, Paired.length pr]
  refine ⟨hz, hs, h1, h2, es, ep, h3, hl, fun i k b v ex => ?_⟩
  obtain ⟨y, ey, q⟩ := paired_get pr ex
  have en : es.toList[i]? = some (⟨y.1.hash X.w, .ref y.2.1, y.2.2⟩ : DictEntry) := by rw [h4, List.getElem?_map, ey]; rfl
  rw [Array.getElem?_toList] at en
  refine ⟨_, en, ?_, q.2.2⟩
  rw [← q.2.1]
theorem turn_itemsN {xs : List (NestedKey × Addr × V)} {elts : List Expr} {kk : Nat} {tpos : Pos} (it : Addr) (hod : o.data = .dict es ep) :
    Turn P w K (.Tuple elts kk tpos) (ItiN w d o xs) [it] it (fun i h => ∃ ok ov, IsItemIter h it d i xs.length ep ok ov) where
  mem := by simp
  obj := fun i h st b hb => by
    obtain ⟨ok, ov, e⟩ := st
    have e2 : b = it := by simpa using hb
    subst e2
    exact ⟨_, e, fun v z => nomatch z⟩
  keep := fun i h h' st k => by
    obtain ⟨ok, ov, e⟩ := st
    exact ⟨ok, ov, k it (by simp) _ e⟩
  item := by
    intro X hP hw hK hc i pins s σ H E I hf st hg
    subst hP hw hK
    obtain ⟨hd, hi⟩ := hg
    obtain ⟨hz, hs, hgd, hx, es', ep', hdt, hsz, ent⟩ := dicO_at I hd
    obtain ⟨rfl, rfl⟩ := dict_ep hod hdt
    obtain ⟨⟨k, b, v⟩, hkv⟩ : ∃ q, xs[i]? = some q := ⟨xs[i], List.getElem?_eq_getElem hi⟩
    obtain ⟨en, hen, ek, ru⟩ := ent i k b v hkv
    obtain ⟨hlt', een⟩ := Array.getElem?_eq_some_iff.mp hen
    obtain ⟨ok, ov, he⟩ := st
    rw [← hsz] at he
    have hlt : it < s.heap.objs.size := Heap.lt_size he
    refine wpAny_pyNext_items_item_raw he ⟨o, hgd, hx, hdt⟩ hlt' fun g ho hT hz2 hk => ?_
    refine ⟨_, rfl, wpAny_letOwnedTupleGo_items (s := { s with heap := g }) ho fun g2 he' sb => ?_⟩
    rw [een] at hT
    rw [ek] at hT
    have hT2 : g2.get? s.heap.objs.size = some { cls := .type "tuple", data := .seq #[.ref b, en.val] } := (sb.2 _ (Nat.ne_of_gt hlt)).trans hT
    have new : ObjOk X.prog X.w (upd H s.heap.objs.size (.tup [.ref b, v])) g2 s.heap.objs.size (.tup [.ref b, v]) :=
      ⟨by show 2 ≤ sizeLine; decide, [.ref b, en.val], .cons rfl (.cons ru .nil), ⟨_, hT2, rfl, _, rfl⟩⟩
    have I1 : Inv X pins σ (upd H s.heap.objs.size (.tup [.ref b, v])) { s with heap := g2 } :=
      I.turnedNew (t' := s.toks) (ch := [it]) (fun c ob hb e => (sb.2 c (by simpa using hb)).trans (hk c ob (by simpa using hb) e)) hf (Nat.le_refl _) new
    refine ⟨.ref s.heap.objs.size, _, I1, rfl, ⟨_, k, b, v, hkv, rfl, I.hok.fresh (Nat.le_refl _), rfl⟩, ⟨es'[i].key, es'[i].val, by rw [← hsz]; exact he'⟩, fun c hb => ?_⟩
    have e : c = it := by simpa using hb
    rw [e, upd_ne (Nat.ne_of_lt hlt)]
    exact (hf it (by simp)).1
  done := by
    intro X hP hw hK hc i pins s σ H E I hf st hg
    subst hP hw hK
    obtain ⟨hd, hi⟩ := hg
    obtain ⟨f0, f1, f2, f3, f4, f5⟩ := hf it (by simp)
    obtain ⟨hz, hs, hgd, hx, es', ep', hdt, hsz, ent⟩ := dicO_at I hd
    obtain ⟨rfl, rfl⟩ := dict_ep hod hdt
    obtain ⟨ok, ov, he⟩ := st
    rw [← hsz] at he
    exact wpAny_pyNext_items_end_raw (I.ok.hd hc) he ⟨o, hgd, hx, hdt⟩ (by omega) fun h' eb => ⟨rfl, I.turned (t' := s.toks) (fun b ob hb e => eb b ob hb e) f0 f1 f3 f4 f5⟩
  self := fun A i s Q E st h => by
    obtain ⟨_, _, e⟩ := st
    exact PySem.W.kcp_self e h
end
def iItemsN (X : Cx) (td : TE) : TI := fun σ H R => td σ H fun x H1 => ∃ d o xs, x = .ref d ∧ H1 d = some (DicO X.w d xs o) ∧ R (ItiN X.w d o xs) H1
section
variable {X : Cx} {W : WX} {tg e : Expr} {td : TE} {apos cpos : Pos}
theorem pi_itemsN {elts : List Expr} {kk : Nat} {tpos : Pos} (he : PE X e td) (hbase : attributeBase e "items" X.env (eval e X.env) = eval e X.env := by rfl) (hline : (apos.endLine == cpos.line) = true := by rfl) :
    PI X (.Tuple elts kk tpos) (.Call (.Attribute e "items" apos) [] [] cpos) (iItemsN X td) := by
  refine ⟨fun pins t σ H R I h => ?_⟩
  refine wpAny_Call_method (T := "dict") (id := "dict.items") hbase rfl hline F.plainAttrs_dict F.slot_dict_items F.type_dict_items (thn (he.run pins t σ H _ I h) fun u s1 ⟨x, H1, I1, rx, d, o, xs, ex, hd, q⟩ => ?_)
  subst ex
  obtain rfl : u = Value.ref d := rx
  obtain ⟨hz, hs, hgd, hx, es, ep, hdt, hsz, ent⟩ := dicO_at I1 hd
  have hty : s1.TypeIs (.ref d) "dict" := ⟨o, hgd, hx.1⟩
  refine ⟨hty, fun b eb => by cases eb; exact ⟨o, hgd, hx.2.1⟩, ?_⟩
  have I2 : Inv X pins σ H1 { s1 with heap := s1.heap.push { cls := .type "dict_items", data := .fields #[.ref d] } } := I1.kept (t' := s1.toks) fun b ob q => Heap.get?_push_of_some _ q
  have hraw : ({ s1 with heap := s1.heap.push { cls := .type "dict_items", data := .fields #[.ref d] } } : Shared).heap.DictRaw d es ep := ⟨o, Heap.get?_push_of_some _ hgd, hx, hdt⟩
  have fin : wpAny (model X.prog X.w) X.A (pyIter (.ref s1.heap.objs.size)) (PIE X pins σ (.Tuple elts kk tpos) R) X.xe { s1 with heap := s1.heap.push { cls := .type "dict_items", data := .fields #[.ref d] } } := by
    refine wpAny_pyIter_items_raw (d := d) ⟨_, Heap.get?_push_size _ rfl, rfl, rfl⟩ hraw (pi_one (tk := s1.toks) I2 _ (turn_itemsN _ hdt) ⟨.none, .none, ?_⟩ q)
    rw [← hsz]
    exact Heap.get?_push_size _ rfl
  show wpAny _ _ (callWith cpos (.builtin "dict.items") [.ref d] [] []) _ X.xe s1
  exact method_meetsIn F.slot_dict_items F.entry_dict_items rfl (PySem.evalArgs_none ⟨rfl, hty, F.args_dict_items_1 _, _, DT.meetsItems (es := es) (ep := ep) hs, ⟨⟨o, hgd, hx, hdt⟩, fin⟩⟩)
/-! ### {k: v for target in d.items()} -/
def dcompL (g : Gx) (kx vx : Ex) (env : Env) : List D → List D → List D → PH → Res (List D × List D)
  | [], ak, av, ph => .ok (ak, av) ph
  | d :: ds, ak, av, ph => match g d env with
    | some env1 => match kx env1 ph with
      | .ok kv ph1 => match vx env1 ph1 with
        | .ok v ph2 => match kv, v.dat with
          | .d k, some y => if (keyOf k).isSome = true then dcompL g kx vx env ds (putKs ak k) (putVs ak av k y) ph2 else .bad
          | _, _ => .bad
        | _ => .bad
      | _ => .bad
    | none => .bad
def eDComp (own : List Nat) (g : Gx) (o kx vx : Ex) : Ex := fun env ph => (o env ph).bind fun v ph1 => match v with
  | .bor (.dic (k :: ks) vs) => if kindN (k :: ks) = true ∧ (k :: ks).length < 1000000 then (dcompL g kx vx (wipeE env own) (zipD (k :: ks) vs) [] [] ph1).bind fun p ph2 => .ok (.own (.dic p.1 p.2)) ph2 else .bad
  | _ => .bad
theorem tYes_if {σ : L2.St} {H : Hp} {A B : Hp → Prop} (h : A H) : tYes σ H (fun b H => if b = true then A H else B H) := by
  show (if true = true then A H else B H)
  rw [if_pos rfl]
  exact h
theorem dcomp_core {o kx' vx' : Expr} {scope : Scope} {own : List (Str × Nat)} {g : Gx} {sl : List Nat} {xo xk xv : Ex} (hc : X.calm = true) (ho : SE X W o xo) (hsl : ∀ j ∈ sl, j ∈ own.map (·.2))
    (hg : ∀ (s : Shared) (H : Hp) (C : Addr) (cl : List (Str × Addr)) (fp : List Addr), SG (X.blk s H scope (compEnvC scope cl C X.env) fp) tg g sl)
    (hk : ∀ (s : Shared) (H : Hp) (C : Addr) (cl : List (Str × Addr)) (fp : List Addr), SE (X.blk s H scope (compEnvC scope cl C X.env) fp) W0 kx' xk)
    (hv : ∀ (s : Shared) (H : Hp) (C : Addr) (cl : List (Str × Addr)) (fp : List Addr), SE (X.blk s H scope (compEnvC scope cl C X.env) fp) W0 vx' xv) {M m σ H env ph} {Q : VK} (r : Rel (kx X) M m H ph) (er : EnvR (kx X) M m σ H env)
    (q : Post X W M m σ H (GE X M m H Q) (eDComp (own.map (·.2)) g xo xk xv env ph)) :
    tDc (iItemsN X (tW X o)) (gBlk X scope tg) tYes (eBlk X scope kx') (eBlk X scope vx') (own.map (·.2)) σ H Q := by
  refine ho.bind r er q fun val ph1 v H1 f1 r1 er1 rv1 ro1 q1 => ?_
  clear ro1
  split at q1
  · rename_i k0 ks vs
    split at q1
    · rename_i hkn
      obtain ⟨z, rfl, mz, zm, c⟩ := rv1
      rcases (show DicC (Pyp.kx X) M H1 z (k0 :: ks) vs from c) with ⟨kvs, e, qq, _⟩ | ⟨xs, hne, ⟨ob, e⟩, qq, rk, rvs⟩
      · exact absurd (kind_nil qq hkn.1).1 (List.cons_ne_nil _ _)
      · refine ⟨z, ob, xs, rfl, e, fun Dd hD => ?_⟩
        have hlen : xs.length = (k0 :: ks).length := by have := congrArg List.length qq; simpa using this.symm
        have hlen2 : xs.length = vs.length := by have := rvs.length; simpa using this
        have hzl : (zipD (k0 :: ks) vs).length = xs.length := by rw [zipD_length, ← hlen, ← hlen2]; simp
        have Dm : Dd ∉ m := fun y => r1.notM hD (r1.sub Dd y)
        have zD : z ≠ Dd := ne_of_none e hD
        -- the state ahead of the i-th pair
        refine ⟨fun i mm Hc => mm = xs.length - i ∧ i ≤ xs.length ∧ ∃ ak av kvs phc, Frame m H1 Hc ∧ Rel (Pyp.kx X) (MAdd M Dd) m Hc phc ∧ Hc Dd = some (.dK kvs) ∧ kvs.length ≤ i ∧ ak.map keyOf = kvs.map (fun p => some p.1) ∧ Reps (Pyp.kx X) (MAdd M Dd) Hc av (kvs.map (·.2)) ∧ EnvR (Pyp.kx X) (MAdd M Dd) m σ Hc env ∧
          Post X W M m σ H1 (GE X M m H Q) ((dcompL g xk xv (wipeE env (own.map (·.2))) ((zipD (k0 :: ks) vs).drop i) ak av phc).bind fun p ph2 => .ok (.own (.dic p.1 p.2)) ph2),
          ⟨xs.length, by simp, Nat.zero_le _, [], [], [], ph1, Frame.new hD, r1.newM hD, upd_same, Nat.le_refl _, rfl, Reps.nil, er1.newM hD, by simpa using q1⟩, ?_⟩
        rintro i mm Hc ⟨rfl, hi, ak, av, kvs, phc, f, rc, hDc, hkl, hak, hav, erc, qc⟩
        have ec : Hc z = some (DicO X.w z xs ob) := f z _ e zm
        by_cases hlt : i < xs.length
        · refine .inr ⟨⟨ec, hlt⟩, fun Hc => ∃ ak av kvs phc, Frame m H1 Hc ∧ Rel (Pyp.kx X) (MAdd M Dd) m Hc phc ∧ Hc Dd = some (.dK kvs) ∧ kvs.length ≤ i + 1 ∧ ak.map keyOf = kvs.map (fun p => some p.1) ∧ Reps (Pyp.kx X) (MAdd M Dd) Hc av (kvs.map (·.2)) ∧ EnvR (Pyp.kx X) (MAdd M Dd) m σ Hc env ∧
            Post X W M m σ H1 (GE X M m H Q) ((dcompL g xk xv (wipeE env (own.map (·.2))) ((zipD (k0 :: ks) vs).drop (i + 1)) ak av phc).bind fun p ph2 => .ok (.own (.dic p.1 p.2)) ph2),
            fun H' hN => ⟨xs.length - (i + 1), by omega, rfl, hlt, hN⟩, ?_⟩
          rintro xv' H2 ⟨T, k, b, v, ex, rfl, hT, rfl⟩
          have hiz : i < (zipD (k0 :: ks) vs).length := by omega
          rw [drop_cons hiz] at qc
          obtain ⟨da, db, ea, eb, eab⟩ := zipD_get _ _ i _ (List.getElem?_eq_getElem hiz)
          rw [eab] at qc
          have kp1 : KeepP (MAdd M Dd) H1 Hc := fun b o h n => f b o h fun y => n (.inl (r1.sub b y))
          have rk2 := Reps.keep kp1 _ _ (Reps.fresh hD _ _ rk)
          have rvs2 := Reps.keep kp1 _ _ (Reps.fresh hD _ _ rvs)
          obtain ⟨wa, ea', ra⟩ := rk2.get ea
          obtain ⟨wb, eb', rb⟩ := rvs2.get eb
          rw [List.getElem?_map, ex] at ea' eb'
          cases ea'; cases eb'
          have rx : Rep (Pyp.kx X) (MAdd M Dd) (upd Hc T (.tup [.ref b, v])) (.tup [da, db]) (.ref T) := tup_new rc hT (.cons ra (.cons rb .nil))
          have r2 := rc.new (o := .tup [.ref b, v]) hT
          have f2 : Frame m Hc (upd Hc T (.tup [.ref b, v])) := Frame.new hT
          rw [dcompL] at qc
          intro s0 H0' C cl fp
          cases hge : g (.tup [da, db]) (wipeE env (own.map (·.2))) with
          | none => rw [hge] at qc; exact False.elim qc
          | some env1 =>
            rw [hge] at qc
            refine (hg s0 H0' C cl fp).run (MAdd M Dd) m (wipe σ (own.map (·.2))) _ (wipeE env (own.map (·.2))) phc _ _ env1 r2 (wipe_env (erc.keep rc f2) _) (by rw [wipeE_length, wipe_length, er.1]) rx hge _ ?_
            intro σ2 H3 f3 r3 er2 ch
            have f3 : Frame m _ H3 := f3
            refine ⟨by rw [wipe_chg ch hsl, wipe_wipe], ?_⟩
            refine tYes_if ?_
            intro s0 H0' C cl fp
            have q3 : Post X W M m σ H1 (GE X M m H Q) ((match xk env1 phc with
              | .ok kv ph1 => match xv env1 ph1 with
                | .ok v ph2 => match (generalizing := false) kv, v.dat with
                  | .d k, some y => if (keyOf k).isSome = true then dcompL g xk xv (wipeE env (own.map (·.2))) ((zipD (k0 :: ks) vs).drop (i + 1)) (putKs ak k) (putVs ak av k y) ph2 else .bad
                  | _, _ => .bad
                | _ => .bad
              | _ => .bad : Res (List D × List D)).bind fun p ph2 => .ok (.own (.dic p.1 p.2)) ph2) := qc
            refine (hk s0 H0' C cl fp).run (MAdd M Dd) m σ2 H3 env1 phc r3 er2 _ ?_
            cases hke : xk env1 phc with
            | bad => rw [hke] at q3; exact False.elim q3
            | exc c fs ph4 => rw [hke] at q3; exact False.elim q3
            | ok kv ph4 =>
              rw [hke] at q3
              intro yv H4 f4 r4 rv4 _
              have f4 : Frame m H3 H4 := f4
              have r4 : Rel (Pyp.kx X) (MAdd M Dd) m H4 ph4 := r4
              have rv4 : RV (Pyp.kx X) (MAdd M Dd) m H3 H4 yv kv := rv4
              intro s0 H0' C cl fp
              refine (hv s0 H0' C cl fp).run (MAdd M Dd) m σ2 H4 env1 ph4 r4 (er2.keep r3 f4) _ ?_
              have q4 : Post X W M m σ H1 (GE X M m H Q) ((match xv env1 ph4 with
                | .ok v ph2 => match (generalizing := false) kv, v.dat with
                  | .d k, some y => if (keyOf k).isSome = true then dcompL g xk xv (wipeE env (own.map (·.2))) ((zipD (k0 :: ks) vs).drop (i + 1)) (putKs ak k) (putVs ak av k y) ph2 else .bad
                  | _, _ => .bad
                | _ => .bad : Res (List D × List D)).bind fun p ph2 => .ok (.own (.dic p.1 p.2)) ph2) := q3
              cases hve : xv env1 ph4 with
              | bad => rw [hve] at q4; exact False.elim q4
              | exc c fs ph5 => rw [hve] at q4; exact False.elim q4
              | ok vv ph5 =>
                rw [hve] at q4
                intro zv H5 f5 r5 rv5 _
                have f5 : Frame m H4 H5 := f5
                have r5 : Rel (Pyp.kx X) (MAdd M Dd) m H5 ph5 := r5
                have rv5 : RV (Pyp.kx X) (MAdd M Dd) m H4 H5 zv vv := rv5
                have q5 : Post X W M m σ H1 (GE X M m H Q) ((match (generalizing := false) kv, vv.dat with
                  | .d k, some y => if (keyOf k).isSome = true then dcompL g xk xv (wipeE env (own.map (·.2))) ((zipD (k0 :: ks) vs).drop (i + 1)) (putKs ak k) (putVs ak av k y) ph5 else .bad
                  | _, _ => .bad : Res (List D × List D)).bind fun p ph2 => .ok (.own (.dic p.1 p.2)) ph2) := q4
                cases kv with
                | d kd =>
                  cases hda : vv.dat with
                  | none => rw [hda] at q5; exact False.elim q5
                  | some y =>
                    rw [hda] at q5
                    have q6 : Post X W M m σ H1 (GE X M m H Q) ((if (keyOf kd).isSome = true then dcompL g xk xv (wipeE env (own.map (·.2))) ((zipD (k0 :: ks) vs).drop (i + 1)) (putKs ak kd) (putVs ak av kd y) ph5 else .bad : Res (List D × List D)).bind fun p ph2 => .ok (.own (.dic p.1 p.2)) ph2) := q5
                    split at q6
                    · rename_i hkk
                      obtain ⟨kk, hkk⟩ := Option.isSome_iff_exists.mp hkk
                      have fall : Frame m Hc H5 := ((f2.trans f3).trans f4).trans f5
                      have hD5 : H5 Dd = some (.dK kvs) := fall Dd _ hDc Dm
                      have ry := rv5.dat hda
                      have rkey : Rep (Pyp.kx X) (MAdd M Dd) H5 kd yv := rv4.keep r4 f5
                      obtain rfl := keyOf_rep rkey hkk
                      have hav5 := Reps.keep (fall.keep rc) _ _ hav
                      have er5 := erc.keep rc fall
                      have keep5 : KeepP (MAdd M Dd) H5 (upd H5 Dd (.dK (putK kvs kk zv))) := upd_keep (.inr rfl)
                      obtain ⟨p1, p2⟩ := put_k (v := zv) hkk (Rep.keep keep5 _ _ ry) ak av kvs hak (Reps.keep keep5 _ _ hav5)
                      have hl2 := length_putK kvs kk zv
                      refine ⟨kvs, kk, rfl, hD5, ?_, putKs ak kd, putVs ak av kd y, putK kvs kk zv, ph5, fun b' o' hb hm => ?_, r5.updOwn (.inr rfl) Dm, upd_same, by omega, p1, p2, ?_, q6⟩
                      · have : (k0 :: ks).length < 1000000 := hkn.2
                        rw [sizeLine_eq]; omega
                      · rw [upd_ne (ne_of_none hb hD)]
                        exact f.trans fall b' o' hb hm
                      · refine ⟨er5.1, fun j u eu => ?_⟩
                        obtain ⟨v', g1, g2⟩ := er5.2 j u eu
                        refine ⟨v', g1, ?_⟩
                        cases u with
                        | d u => exact Rep.keep keep5 _ _ g2
                        | own u =>
                          obtain ⟨a, e', ma, am, ca⟩ := g2
                          have haD : a ≠ Dd := fun ea => by
                            subst ea
                            obtain ⟨v0, t1, a0, t2, t3, _⟩ := er1.2 j _ eu
                            rw [g1] at t1
                            have e'' : v' = v0 := by simpa using t1
                            subst e''
                            rw [e'] at t2
                            cases t2
                            exact r1.notM hD t3
                          exact ⟨a, e', ma, am, ca.keep keep5 fun o' hh => by rw [upd_ne haD]; exact hh⟩
                        | bor u => exact g2.elim
                        | ref n => exact g2
                    · exact False.elim q6
                | own kd => exact False.elim q5
                | bor kd => exact False.elim q5
                | ref n => exact False.elim q5
        · have hin : i = xs.length := by omega
          subst hin
          rw [show (zipD (k0 :: ks) vs).drop xs.length = [] by rw [← hzl]; exact List.drop_length] at qc
          refine .inl ⟨⟨ec, Nat.le_refl _⟩, ?_⟩
          have k00 : ∀ b, M b → MAdd M Dd b := fun b y => .inl y
          have qc : GE X M m H Q (.own (.dic ak av)) phc := qc
          have cont : Cont (Pyp.kx X) (MAdd M Dd) Hc Dd (.dic ak av) := .inl ⟨kvs, hDc, hak, hav⟩
          refine qc (.ref Dd) Hc (f1.trans f) (rc.anti k00 r.sub) ⟨Dd, rfl, f1.back r1 hD, r1.notM hD, cont.anti k00⟩ fun d e' a ea => ?_
          cases e'; cases ea
          exact ⟨rc, cont⟩
    · exact q1.elim
  · exact q1.elim
theorem s_dcomp {o kx' vx' : Expr} {scope : Scope} {g : Gx} {sl : List Nat} {xo xk xv : Ex} {elts : List Expr} {kk : Nat} {tpos pos : Pos} (own : List (Str × Nat)) (hc : X.calm = true) (hN : X.N.Nodup) (ok : BlkOk X.N X.env.scope scope own) (ho : SE X W o xo) (hsl : ∀ j ∈ sl, j ∈ own.map (·.2))
    (hg : ∀ (s : Shared) (H : Hp) (C : Addr) (cl : List (Str × Addr)) (fp : List Addr), SG (X.blk s H scope (compEnvC scope cl C X.env) fp) (.Tuple elts kk tpos) g sl)
    (hk : ∀ (s : Shared) (H : Hp) (C : Addr) (cl : List (Str × Addr)) (fp : List Addr), SE (X.blk s H scope (compEnvC scope cl C X.env) fp) W0 kx' xk)
    (hv : ∀ (s : Shared) (H : Hp) (C : Addr) (cl : List (Str × Addr)) (fp : List Addr), SE (X.blk s H scope (compEnvC scope cl C X.env) fp) W0 vx' xv)
    (hbase : attributeBase o "items" X.env (eval o X.env) = eval o X.env := by rfl) (hline : (apos.endLine == cpos.line) = true := by rfl)
    (hs : ∀ x, foldedSetIterable (.Call (.Attribute o "items" apos) [] [] cpos) X.env x = pure x := by intro _; rfl) :
    SE X W (.DictComp kx' vx' [⟨.Tuple elts kk tpos, .Call (.Attribute o "items" apos) [] [] cpos, [], 0⟩] scope pos) (eDComp (own.map (·.2)) g xo xk xv) :=
  ⟨fun M m σ H env ph r er Q q => tW_of (pe_dc hc hN (pi_itemsN tW_pe hbase hline) ok gBlk_pg (fun _ _ _ _ _ => pts_nil) eBlk_pe eBlk_pe hs) (dcomp_core hc ho hsl hg hk hv r er q)⟩
/-! ### len(d) -/
def bLenA : List D → Option Val
  | [.dic ks vs] => if ks.length ≤ lim then some (.d (.int ks.length)) else none
  | ds => bLen ds
theorem b_lenA : BlS X (.builtin "len") bLenA := by
  intro pins s σ H vs us M m ph ds val Q I rv r hc e g
  unfold bLenA at e
  split at e
  · rename_i ks ws
    split at e
    · rename_i hl
      cases e
      obtain ⟨v, rfl, c⟩ := crs1 hc
      obtain ⟨z, rfl, c2⟩ := cr_dic c
      rcases c2 with ⟨kvs, ea, qq, _⟩ | ⟨xs, hne, ea, qq, r1, r2⟩
      · have hkl : kvs.length = ks.length := by have := congrArg List.length qq; simpa using this.symm
        exact call_lenD pins s σ H _ us Q I rv ⟨z, kvs, rfl, ea, by rw [hkl]; exact g.int r⟩
      · obtain ⟨hz, hs, ys, pr, dd⟩ := dn_of I ea r1 qq
        have hxl : xs.length = ks.length := by have := congrArg List.length qq; simpa using this.symm
        have hyl : ys.length = ks.length := by rw [← Paired.length pr, hxl]
        obtain rfl := Vals.ref1 rv
        have hl' : ks.length ≤ 1000000 := hl
        refine call_len_dictH hs dd (by omega) ?_
        rw [hyl]
        exact ⟨.int ks.length, H, I.tok _, ⟨_, rfl⟩, g.int r⟩
    · cases e
  · exact b_len pins s σ H vs us M m ph ds val Q I rv r hc e g
end
end Pyp

/-! A constant of the module. -/
namespace Pyp
open PySem PySem.Spec PyProof.Rows L2
structure KConAt (w : World) (K : PySem.W.Frag) (mg : Str → Option Value) (name : Str) (d : D) : Prop where
  ex : ∃ (v : V) (u : Value), mg name = some u ∧ RelV v u ∧ ∀ (M : Addr → Prop) (H : Hp), Rep ⟨K, w⟩ M H d v
theorem s_kcon {X : Cx} {W : WX} {name : Str} {d : D} {p : Pos} (T : KConAt X.w X.K X.mg name d) (hg : Gl X name := by rfl) (hdb : (name == ("__debug__" : Str)) = false := by decide) : SE X W (.Name name p) (eC d) := by
  obtain ⟨v, u, hm, r, h⟩ := T.ex
  exact ⟨fun M m σ H env ph rl er Q q => tW_of (pe_glob hg hm r hdb) (q v H Frame.refl rl (h M H) RO.d)⟩
/-- dict(enumerate(zip(a, b))) -/
def eDEZ (xs : Ax) : Ex := fun env ph => (xs env ph).bind fun vs ph1 => match dats vs with
  | some [.tup as, .tup bs] => if (zipD as bs).length < 1000000 then .ok (.own (.dic (rngD 0 (zipD as bs).length) (zipD as bs))) ph1 else .bad
  | _ => .bad
/-! ### max of a tuple -/
section
variable {X : Cx}
theorem cr_maxT (hc : X.calm = true) : CallR X (.builtin "max") (fun vs H Q => ∃ (a : Addr) (ns : List Int), vs = [V.ref a] ∧ SqT X.K H a (ns.map V.int) ∧ ns ≠ [] ∧ ∀ m, m ∈ ns → (∀ y ∈ ns, y ≤ m) → Q (.int m) H) := by
  intro pins t σ H vs us Q I r h
  obtain ⟨d, ns, rfl, hs, hne, q⟩ := h
  obtain rfl := Vals.ref1 r
  obtain ⟨its, rv, hT, dlt⟩ := inv_seq (t := true) I (by unfold Sq; rw [if_pos rfl]; exact hs)
  have hT : t.heap.IsTuple d its.toArray := hT
  have hz : its.length = ns.length := by rw [← rv.length, List.length_map]
  have each : ∀ (i : Nat) (u : Value), its.toArray[i]? = some u → ∃ tk, u = Value.int (ns.getD i 0) tk := fun i u hu => by
    have hu' : its[i]? = some u := by simpa using hu
    rcases Vals.at rv i with ⟨_, h2⟩ | ⟨v, u', h1, h2, h3⟩
    · rw [hu'] at h2; cases h2
    · rw [hu'] at h2
      cases h2
      rw [List.getElem?_map] at h1
      obtain ⟨j, hj, z2⟩ := Option.map_eq_some_iff.mp h1
      subst z2
      obtain ⟨tk, e⟩ := h3
      exact ⟨tk, by rw [e, List.getD_eq_getElem?_getD, hj] <;> rfl⟩
  have pos' : 0 < its.toArray.size := by
    rw [List.size_toArray, hz]
    exact List.length_pos_iff.mpr hne
  refine call_max_walk (wpAny_pyIter_tuple hT ?_)
  refine ⟨_, _, _, _, _, _, _, rfl, Walks.tuple (A := X.A.in1) (I.ok.hd hc) t.heap.objs.size d (Nat.ne_of_lt dlt) its.toArray, ⟨⟨_, Heap.get?_push_size _ rfl, rfl, rfl⟩, hT.at fun o e => Heap.get?_push_of_some _ e⟩, fun b hb => ?_, pos', CmpOf.ints_gt (fun i => ns.getD i 0) each, fun v g' tk hP hk => ?_⟩
  · show b < (t.heap.push _).objs.size
    rw [Heap.size_push]
    rcases List.mem_cons.mp hb with z | hb
    · rw [z]; exact Nat.lt_succ_self _
    · rw [List.mem_singleton.mp hb]
      exact Nat.lt_succ_of_lt dlt
  · obtain ⟨tk', rfl⟩ := each _ v hP
    have hsz : its.toArray.size = ns.length := by rw [List.size_toArray, hz]
    obtain ⟨b1, b2⟩ := argBest_gt (fun i => ns.getD i 0) (its.toArray.size - 1)
    refine ⟨.int _, H, I.kept (t' := tk) fun b u z => hk b u (fun hmem => ?_) (Heap.get?_push_of_some _ z), ⟨tk', rfl⟩, q _ ?_ fun j hj => ?_⟩
    · have z1 : b = t.heap.objs.size := List.mem_singleton.mp hmem
      have z2 := Heap.lt_size z
      rw [z1] at z2
      exact absurd z2 (Nat.lt_irrefl _)
    · have hb : argBest (fun i j => decide (ns.getD i 0 > ns.getD j 0)) (its.toArray.size - 1) < ns.length := by omega
      rw [List.getD_eq_getElem?_getD, List.getElem?_eq_getElem hb]
      exact List.getElem_mem hb
    · obtain ⟨i, hi, z⟩ := List.mem_iff_getElem.mp hj
      have z2 : ns.getD i 0 = j := by rw [List.getD_eq_getElem?_getD, List.getElem?_eq_getElem hi, ← z] <;> rfl
      rw [← z2]
      exact b2 i (by omega)
def bMaxA : List D → Option Val
  | [.tup ds] => (intsD ds).bind fun ns => (maxL ns).map fun k => .d (.int k)
  | ds => bMax ds
theorem b_maxA (hc : X.calm = true) : BlS X (.builtin "max") bMaxA := by
  intro pins s σ H vs us M m ph ds val Q I rv r h e g
  unfold bMaxA at e
  split at e
  · rename_i ds
    cases hb : intsD ds with
    | none => rw [hb] at e; cases e
    | some ns =>
      rw [hb] at e
      cases hm : maxL ns with
      | none => rw [Option.bind_some, hm] at e; cases e
      | some k =>
        rw [Option.bind_some, hm] at e; cases e
        obtain ⟨v, rfl, c⟩ := crs1 h
        obtain ⟨p, xs, rfl, t, rs⟩ := cr_tup c
        have ex := intsD_rep hb rs
        subst ex
        refine cr_maxT hc pins s σ H _ us Q I rv ⟨p, ns, rfl, t.sq, fun z => (by subst z; cases hm), fun mm h1 h2 => ?_⟩
        rw [maxL_is hm h1 h2]; exact g.int r
  · exact b_max hc pins s σ H vs us M m ph ds val Q I rv r h e g
end
end Pyp

/-! dict(enumerate(zip(a, b))), a and b tuples. -/
namespace PySem
open Sem (wp)
namespace EZ
section
variable {prog : Program} {w : World} {A : Around} {E : Value → Shared → Prop} {s : Shared}
/-- enumerate of a zip -/
theorem meets_new (z TI TO : Addr) (f0 : Value) : Meets (Builtin.«enumerate.__new__» ⟨[.type "enumerate", .ref z], []⟩) (fun _ R s => IsZip s.heap z TI TO f0 ∧
    R (.ok (.ret (.ref s.heap.objs.size))) { s with heap := s.heap.push { cls := .type "enumerate", data := .fields #[.none, .bool false, .ref z, rawInt 0, .none, .none] } }) :=
  .of_wp fun prog w A R s h => by
    obtain ⟨hp, g, dr, tk, os⟩ := s
    obtain ⟨hz, h⟩ := h
    have hsub := sub_enumerate
    have q1 : ∀ {A' : Around} {E : Value → Shared → Prop} {Q : Value → Shared → Prop}, Q (.ref z) ⟨hp, g, dr, tk, os⟩ → wpAny (model prog w) A' (pyIter (.ref z)) Q E ⟨hp, g, dr, tk, os⟩ :=
      fun q => wpAny_pyIter_zip hz q
    wp_walk
    refine wpAny_stack_any fun st => wpAny_pure ?_
    split
    · rename_i c _ _ _ _ _
      cases (c == Value.type "enumerate")
      · wp_walk using q1
        exact ⟨_, rfl, h⟩
      · wp_walk using q1
        exact ⟨_, rfl, h⟩
    · wp_walk using q1
      exact ⟨_, rfl, h⟩
theorem begins {z TI TO : Addr} {f0 : Value} {Q : Value → Shared → Prop} (hz : IsZip s.heap z TI TO f0)
    (h : ∀ h', IsEnum h' s.heap.objs.size z 0 .none → h'.objs.size = s.heap.objs.size + 1 → (∀ b o, s.heap.get? b = some o → h'.get? b = some o) → Q (.ref s.heap.objs.size) { s with heap := h' }) : wpAny (model prog w) A (call (.type "enumerate") [.ref z]) Q E s := by
  refine callType_new F.called_enumerate (by decide) (F.typeCall_enumerate_1 _) (F.newCall_enumerate_1 _) (fun obj => F.args_object_init_2 obj _) F.entry_enumerate_new (meets_new z TI TO f0) ⟨hz, ?_⟩
  have he : IsEnum (s.heap.push { cls := .type "enumerate", data := .fields #[.none, .bool false, .ref z, rawInt 0, .none, .none] }) s.heap.objs.size z 0 .none := Heap.get?_push_size s.heap rfl
  exact ⟨⟨_, he, rfl⟩, h _ he (Heap.size_push ..) fun b o x => Heap.get?_push_of_some _ x⟩

variable {z TI TO T i1 i2 : Addr} {fp1 fp2 : List Addr} {n1 n2 i : Nat} {P1 P2 : Nat → Value → Prop} {St1 St2 : Nat → Heap → Prop} {f : Bool} {oT : Obj}
/-- the zip's next, its first pair still in use -/
theorem item_out {Q : Value → Shared → Prop} (S : ZipSep2 z TI TO i1 i2 fp1 fp2) (D1 : Draws prog w A i1 fp1 n1 P1 St1) (D2 : Draws prog w A i2 fp2 n2 P2 St2) (hz : IsZipHeld s.heap z TI TO T f) (hT : s.heap.get? T = some oT) (hTI : IsTupOf2 s.heap TI (.ref i1) (.ref i2))
    (st1 : St1 i s.heap) (st2 : St2 i s.heap) (l1 : i < n1) (l2 : i < n2)
    (hQ : ∀ x1 x2 h' tk, P1 i x1 → P2 i x2 → IsZipHeld h' z TI TO T true → St1 (i + 1) h' → St2 (i + 1) h' → IsTupOf2 h' s.heap.objs.size x1 x2 → h'.objs.size = s.heap.objs.size + 1 →
      (∀ c o, c ≠ z → c ≠ i1 → c ≠ i2 → s.heap.get? c = some o → h'.get? c = some o) → Q (.ref s.heap.objs.size) { s with heap := h', toks := tk }) :
    wpAny (model prog w) A (Builtin.«zip.__next__» ⟨[.ref z], []⟩) (fun fin s' => ∃ v, fin = .done (.ret v) ∧ Q v s') E s := by
  show wpAny _ _ (field (.ref z) 2 >>= _) _ _ _
  refine wpAny_bind (wpAny_field hz rfl (x := .bool false) rfl ?_)
  show wpAny _ _ (field (.ref z) 3 >>= _) _ _ _
  refine wpAny_bind (wpAny_field hz rfl (x := .ref TI) rfl (wpAny_bind (wpAny_seqItems hTI rfl ?_)))
  show wpAny _ _ (Builtin.SmallTypes.ownedTupleIsFree (.ref z) >>= _) _ _ _
  refine wpAny_bind (wpAny_tupleHeld_zip hz hT fun g1 z1 s1 => ?_)
  simp only [Bool.false_eq_true, if_false]
  refine wpAny_bind ?_
  rw [← Array.forIn_toList]
  simp only [List.forIn_cons, List.forIn_nil]
  refine wpAny_bind (wpAny_bind (wpAny_holding ?_))
  show wpAny _ _ (Builtin.SmallTypes.nextOf (.ref i1) >>= _) _ _ _
  refine wpAny_bind (D1.item i { s with heap := g1 } _ _ l1 (D1.over st1 s1 S.zf1) fun x1 g2 tk1 p1 t1 s2 => wpAny_pure (wpAny_pure ?_))
  replace s2 : Heap.SameBut i1 g1 g2 := s2
  refine wpAny_bind (wpAny_bind (wpAny_holding ?_))
  show wpAny _ _ (Builtin.SmallTypes.nextOf (.ref i2) >>= _) _ _ _
  refine wpAny_bind (D2.item i { s with heap := g2, toks := tk1 } _ _ l2 (D2.over (D2.over st2 s1 S.zf2) s2 S.sep1_2) fun x2 g3 tk2 p2 t2 s3 => wpAny_pure (wpAny_pure (wpAny_pure ?_)))
  replace s3 : Heap.SameBut i2 g2 g3 := s3
  show wpAny _ _ (newTuple [x1, x2] >>= _) _ _ _
  refine wpAny_bind (wpAny_newTuple ?_)
  have hsz : g3.objs.size = s.heap.objs.size := by rw [s3.1, s2.1, s1.1]
  have z3 : IsZipHeld g3 z TI TO T true := s3.extBut _ _ S.zi2 (s2.extBut _ _ S.zi1 z1)
  have hk : ∀ c o, c ≠ z → c ≠ i1 → c ≠ i2 → s.heap.get? c = some o → g3.get? c = some o := fun c o c1 c2 c3 e => s3.extBut _ _ c3 (s2.extBut _ _ c2 (s1.extBut _ _ c1 e))
  have t1' : St1 (i + 1) g3 := D1.over t1 s3 S.sep2_1
  refine wpAny_pure ⟨_, rfl, ?_⟩
  show Q (.ref g3.objs.size) _
  have hp : IsTupOf2 (g3.push { cls := .type "tuple", data := .seq #[x1, x2] }) g3.objs.size x1 x2 := Heap.get?_push_size _ rfl
  have hz4 : (g3.push { cls := .type "tuple", data := .seq #[x1, x2] }).objs.size = g3.objs.size + 1 := Heap.size_push ..
  rw [hsz] at hp hz4 ⊢
  exact hQ x1 x2 _ tk2 p1 p2 (Heap.get?_push_of_some _ z3) (D1.frame _ _ _ t1' fun b _ o e => Heap.get?_push_of_some _ e) (D2.frame _ _ _ t2 fun b _ o e => Heap.get?_push_of_some _ e) hp hz4 fun c o c1 c2 c3 e => Heap.get?_push_of_some _ (hk c o c1 c2 c3 e)
/-- .. at its end -/
theorem end_out {Q : Fin → Shared → Prop} (S : ZipSep2 z TI TO i1 i2 fp1 fp2) (D1 : Draws prog w A i1 fp1 n1 P1 St1) (D2 : Draws prog w A i2 fp2 n2 P2 St2) (hz : IsZipHeld s.heap z TI TO T f) (hT : s.heap.get? T = some oT) (hTI : IsTupOf2 s.heap TI (.ref i1) (.ref i2))
    (st1 : St1 i s.heap) (st2 : St2 i s.heap) (l1 : i ≤ n1) (l2 : i ≤ n2) (hend : i = n1 ∨ i = n2)
    (hE : ∀ h' tk e, (∀ c o, c ≠ z → c ≠ i1 → c ≠ i2 → s.heap.get? c = some o → h'.get? c = some o) → (∃ o, h'.get? e = some o ∧ o.cls = .type "StopIteration") → E (.ref e) { s with heap := h', toks := tk }) :
    wpAny (model prog w) A (Builtin.«zip.__next__» ⟨[.ref z], []⟩) Q E s := by
  show wpAny _ _ (field (.ref z) 2 >>= _) _ _ _
  refine wpAny_bind (wpAny_field hz rfl (x := .bool false) rfl ?_)
  show wpAny _ _ (field (.ref z) 3 >>= _) _ _ _
  refine wpAny_bind (wpAny_field hz rfl (x := .ref TI) rfl (wpAny_bind (wpAny_seqItems hTI rfl ?_)))
  show wpAny _ _ (Builtin.SmallTypes.ownedTupleIsFree (.ref z) >>= _) _ _ _
  refine wpAny_bind (wpAny_tupleHeld_zip hz hT fun g1 z1 s1 => ?_)
  simp only [Bool.false_eq_true, if_false]
  refine wpAny_bind ?_
  rw [← Array.forIn_toList]
  simp only [List.forIn_cons, List.forIn_nil]
  refine wpAny_bind (wpAny_bind (wpAny_holding ?_))
  show wpAny _ _ (Builtin.SmallTypes.nextOf (.ref i1) >>= _) _ _ _
  by_cases hl : i < n1
  · refine wpAny_bind (D1.item i { s with heap := g1 } _ _ hl (D1.over st1 s1 S.zf1) fun x1 g2 tk1 p1 t1 s2 => wpAny_pure (wpAny_pure ?_))
    replace s2 : Heap.SameBut i1 g1 g2 := s2
    have hi2 : i = n2 := by omega
    refine wpAny_bind (wpAny_bind (wpAny_holding ?_))
    show wpAny _ _ (Builtin.SmallTypes.nextOf (.ref i2) >>= _) _ _ _
    refine wpAny_bind (D2.done { s with heap := g2, toks := tk1 } _ _ (by rw [← hi2]; exact D2.over (D2.over st2 s1 S.zf2) s2 S.sep1_2) fun g3 e s3 he => ?_)
    exact hE g3 tk1 e (fun c o c1 c2 c3 x => s3 _ _ c3 (s2.extBut _ _ c2 (s1.extBut _ _ c1 x))) he
  · have hi1 : i = n1 := by omega
    refine wpAny_bind (D1.done { s with heap := g1 } _ _ (by rw [← hi1]; exact D1.over st1 s1 S.zf1) fun g3 e s3 he => ?_)
    exact hE g3 s.toks e (fun c o c1 c2 c3 x => s3 _ _ c2 (s1.extBut _ _ c1 x)) he
/-- the zip's state at its i-th pair -/
def ZS (e z TI TO i1 i2 : Addr) (fp1 fp2 : List Addr) (St1 St2 : Nat → Heap → Prop) (i : Nat) (h : Heap) : Prop := IsTupOf2 h TI (.ref i1) (.ref i2) ∧ St1 i h ∧ St2 i h ∧
  ((IsZip h z TI TO .none ∧ ∃ a b, IsTupOf2 h TO a b) ∨ ∃ T f oT, IsZipHeld h z TI TO T f ∧ h.get? T = some oT ∧ T ≠ e ∧ T ≠ z ∧ T ∉ fp1 ∧ T ∉ fp2)
variable {e : Addr}
theorem ZS.there {h : Heap} (st : ZS e z TI TO i1 i2 fp1 fp2 St1 St2 i h) : ∃ o, h.get? z = some o ∧ o.cls = .type "zip" := by
  obtain ⟨_, _, _, ⟨hz, _⟩ | ⟨T, f, oT, hz, _⟩⟩ := st
  · exact ⟨_, hz, rfl⟩
  · exact ⟨_, hz, rfl⟩
theorem next_item {Q : Value → Shared → Prop} (S : ZipSep2 z TI TO i1 i2 fp1 fp2) (D1 : Draws prog w A.in1 i1 fp1 n1 P1 St1) (D2 : Draws prog w A.in1 i2 fp2 n2 P2 St2) (st : ZS e z TI TO i1 i2 fp1 fp2 St1 St2 i s.heap) (l1 : i < n1) (l2 : i < n2)
    (b1 : ∀ c ∈ fp1, c < s.heap.objs.size) (b2 : ∀ c ∈ fp2, c < s.heap.objs.size) (be : e < s.heap.objs.size)
    (hQ : ∀ x1 x2 h' tk, P1 i x1 → P2 i x2 → ZS e z TI TO i1 i2 fp1 fp2 St1 St2 (i + 1) h' → IsTupOf2 h' s.heap.objs.size x1 x2 → h'.objs.size = s.heap.objs.size + 1 →
      (∀ c o, c ≠ z → c ≠ TO → c ≠ i1 → c ≠ i2 → s.heap.get? c = some o → h'.get? c = some o) → Q (.ref s.heap.objs.size) { s with heap := h', toks := tk }) :
    wpAny (model prog w) A (Builtin.SmallTypes.nextOf (.ref z)) Q E s := by
  have hTy : s.TypeIs (.ref z) "zip" := st.there
  obtain ⟨hTI, st1, st2, zz⟩ := st
  unfold Builtin.SmallTypes.nextOf
  refine wpAny_bind (wpAny_callSpecial?_slot (name := Str.ofString "__next__") hTy F.slot_zip_next (wpAny_call_entry F.slot_zip_next hTy F.entry_zip_next ?_ (F.args_zip_next_1 _)))
  have n1' : s.heap.objs.size ∉ fp1 := fun y => Nat.lt_irrefl _ (b1 _ y)
  have n2' : s.heap.objs.size ∉ fp2 := fun y => Nat.lt_irrefl _ (b2 _ y)
  have nz : s.heap.objs.size ≠ z := by
    obtain ⟨o, ho, _⟩ := hTy
    exact Nat.ne_of_gt (Heap.lt_size ho)
  rcases zz with ⟨hz, a, b, hTO⟩ | ⟨T, f, oT, hz, hT, r0, r1, r2, r3⟩
  · refine zipD2_next_item S D1 D2 hz hTI hTO st1 st2 l1 l2 fun x1 x2 g tk p1 p2 z1 hTO1 s1 s2 hN hsz hk => wpAny_pure ?_
    exact hQ x1 x2 g tk p1 p2 ⟨hk _ _ S.TIz S.TITO S.TIi1 S.TIi2 hTI, s1, s2, .inr ⟨_, false, _, z1, hN, Nat.ne_of_gt be, nz, n1', n2'⟩⟩ hN hsz hk
  · refine item_out S D1 D2 hz hT hTI st1 st2 l1 l2 fun x1 x2 g tk p1 p2 z1 s1 s2 hN hsz hk => wpAny_pure ?_
    have q1 : T ≠ i1 := fun y => r2 (by rw [y]; exact S.mem1)
    have q2 : T ≠ i2 := fun y => r3 (by rw [y]; exact S.mem2)
    exact hQ x1 x2 g tk p1 p2 ⟨hk _ _ S.TIz S.TIi1 S.TIi2 hTI, s1, s2, .inr ⟨T, true, oT, z1, hk _ _ r1 q1 q2 hT, r0, r1, r2, r3⟩⟩ hN hsz fun c o c1 _ c3 c4 y => hk c o c1 c3 c4 y
theorem next_end {Q : Value → Shared → Prop} (S : ZipSep2 z TI TO i1 i2 fp1 fp2) (D1 : Draws prog w A.in1 i1 fp1 n1 P1 St1) (D2 : Draws prog w A.in1 i2 fp2 n2 P2 St2) (st : ZS e z TI TO i1 i2 fp1 fp2 St1 St2 i s.heap) (l1 : i ≤ n1) (l2 : i ≤ n2) (hend : i = n1 ∨ i = n2)
    (hE : ∀ h' tk e, (∀ c o, c ≠ z → c ≠ TO → c ≠ i1 → c ≠ i2 → s.heap.get? c = some o → h'.get? c = some o) → (∃ o, h'.get? e = some o ∧ o.cls = .type "StopIteration") → E (.ref e) { s with heap := h', toks := tk }) :
    wpAny (model prog w) A (Builtin.SmallTypes.nextOf (.ref z)) Q E s := by
  have hTy : s.TypeIs (.ref z) "zip" := st.there
  obtain ⟨hTI, st1, st2, zz⟩ := st
  unfold Builtin.SmallTypes.nextOf
  refine wpAny_bind (wpAny_callSpecial?_slot (name := Str.ofString "__next__") hTy F.slot_zip_next (wpAny_call_entry F.slot_zip_next hTy F.entry_zip_next ?_ (F.args_zip_next_1 _)))
  rcases zz with ⟨hz, a, b, hTO⟩ | ⟨T, f, oT, hz, hT, r0, r1, r2, r3⟩
  · exact zipD2_next_end S D1 D2 hz hTI hTO st1 st2 l1 l2 hend fun g tk e hk he => hE g tk e hk he
  · exact end_out S D1 D2 hz hT hTI st1 st2 l1 l2 hend fun g tk e hk he => hE g tk e (fun c o c1 _ c3 c4 y => hk c o c1 c3 c4 y) he
/-- the enumerate's state -/
def ES (e z TO i1 i2 : Addr) (i : Nat) (h : Heap) : Prop := (∃ old, IsEnum h e z i old) ∨ ∃ old T f oT, IsEnumHeld h e z i old T f ∧ h.get? T = some oT ∧ T ≠ e ∧ T ≠ z ∧ T ≠ TO ∧ T ≠ i1 ∧ T ≠ i2
theorem ES.there {e z TO i1 i2 : Addr} {i : Nat} {h : Heap} (st : ES e z TO i1 i2 i h) : ∃ o, h.get? e = some o ∧ o.cls = .type "enumerate" := by
  obtain ⟨_, hz⟩ | ⟨_, T, f, oT, hz, _⟩ := st
  · exact ⟨_, hz, rfl⟩
  · exact ⟨_, hz, rfl⟩
theorem enum_item {Q : Option Value → Shared → Prop} (S : ZipSep2 z TI TO i1 i2 fp1 fp2) (D1 : Draws prog w A.in1.in1 i1 fp1 n1 P1 St1) (D2 : Draws prog w A.in1.in1 i2 fp2 n2 P2 St2) (se : ES e z TO i1 i2 i s.heap) (st : ZS e z TI TO i1 i2 fp1 fp2 St1 St2 i s.heap) (l1 : i < n1) (l2 : i < n2)
    (b1 : ∀ c ∈ fp1, c < s.heap.objs.size) (b2 : ∀ c ∈ fp2, c < s.heap.objs.size) (bTO : TO < s.heap.objs.size) (bTI : TI < s.heap.objs.size) (ez : e ≠ z) (eTO : e ≠ TO) (eTI : e ≠ TI) (e1 : e ∉ fp1) (e2 : e ∉ fp2)
    (hQ : ∀ x1 x2 h' tk tk', P1 i x1 → P2 i x2 → ES e z TO i1 i2 (i + 1) h' → ZS e z TI TO i1 i2 fp1 fp2 St1 St2 (i + 1) h' → IsTupOf2 h' s.heap.objs.size x1 x2 → IsTupOf2 h' (s.heap.objs.size + 1) (.int i tk') (.ref s.heap.objs.size) → h'.objs.size = s.heap.objs.size + 2 →
      (∀ c o, c ≠ e → c ≠ z → c ≠ TO → c ≠ i1 → c ≠ i2 → s.heap.get? c = some o → h'.get? c = some o) → Q (some (.ref (s.heap.objs.size + 1))) { s with heap := h', toks := tk }) :
    wpAny (model prog w) A (pyNext (.ref e)) Q E s := by
  have hTy : s.TypeIs (.ref e) "enumerate" := se.there
  have ei1 : e ≠ i1 := fun y => e1 (by rw [y]; exact S.mem1)
  have ei2 : e ≠ i2 := fun y => e2 (by rw [y]; exact S.mem2)
  obtain ⟨x0, f, old, he, alt⟩ : ∃ x0 f old, s.heap.get? e = some { cls := .type "enumerate", dict := none, data := .fields #[x0, .bool f, .ref z, rawInt i, .none, old], slots := #[] } ∧
      ((x0 = .none ∧ f = false) ∨ ∃ (T : Addr) (oT : Obj), x0 = rawInt T ∧ s.heap.get? T = some oT ∧ T ≠ e ∧ T ≠ z ∧ T ≠ TO ∧ T ≠ i1 ∧ T ≠ i2) := by
    obtain ⟨old, he⟩ | ⟨old, T, f, oT, he, hT, r⟩ := se
    · exact ⟨.none, false, old, he, .inl ⟨rfl, rfl⟩⟩
    · exact ⟨_, f, old, he, .inr ⟨T, oT, rfl, hT, r⟩⟩
  clear se
  unfold pyNext
  refine wpAny_bind (wpAny_attempt (wpAny_callSpecial?_slot (name := Str.ofString "__next__") hTy F.slot_enumerate_next (wpAny_call_entry F.slot_enumerate_next hTy F.entry_enumerate_next ?_ (F.args_enumerate_next_1 _))))
  obtain ⟨hp, g, dr, tk0, os⟩ := s
  show wpAny _ _ (field (.ref e) 2 >>= _) _ _ _
  refine wpAny_bind (wpAny_field he rfl (x := .ref z) rfl ?_)
  refine wpAny_bind (next_item S D1 D2 st l1 l2 b1 b2 (Heap.lt_size he) fun x1 x2 h1 tk p1 p2 zs1 hN1 hsz1 hk1 => ?_)
  replace hN1 : IsTupOf2 h1 hp.objs.size x1 x2 := hN1
  replace hsz1 : h1.objs.size = hp.objs.size + 1 := hsz1
  replace hk1 : ∀ c o, c ≠ z → c ≠ TO → c ≠ i1 → c ≠ i2 → hp.get? c = some o → h1.get? c = some o := hk1
  have he1 := hk1 e _ ez eTO ei1 ei2 he
  show wpAny _ _ (field (.ref e) 3 >>= _) _ _ ⟨h1, g, dr, tk, os⟩
  refine wpAny_bind (wpAny_field he1 rfl (x := rawInt i) rfl ?_)
  show wpAny _ _ (field (.ref e) 4 >>= _) _ _ ⟨h1, g, dr, tk, os⟩
  refine wpAny_bind (wpAny_field he1 rfl (x := .none) rfl ?_)
  show wpAny _ _ (mkInt i >>= _) _ _ ⟨h1, g, dr, tk, os⟩
  refine wpAny_bind (wpAny_mkInt ?_)
  show wpAny _ _ (setField (.ref e) 3 (rawInt ((i : Int) + 1)) >>= _) _ _ ⟨h1, g, dr, tk + 1, os⟩
  refine wpAny_bind (wpAny_setField_rec he1 (by simp) fun h2 he2 hs2 => ?_)
  replace hs2 : Heap.SameBut e h1 h2 := hs2
  replace he2 : h2.get? e = some { cls := .type "enumerate", dict := none, data := .fields #[x0, .bool f, .ref z, rawInt ((i : Int) + 1), .none, old], slots := #[] } := he2
  show wpAny _ _ (setField (.ref e) 4 .none >>= _) _ _ ⟨h2, g, dr, tk + 1, os⟩
  refine wpAny_bind (wpAny_setField_rec he2 (by simp) fun h3 he3 hs3 => ?_)
  replace hs3 : Heap.SameBut e h2 h3 := hs3
  replace he3 : h3.get? e = some { cls := .type "enumerate", dict := none, data := .fields #[x0, .bool f, .ref z, rawInt ((i : Int) + 1), .none, old], slots := #[] } := he3
  show wpAny _ _ (newTuple [.int i tk, .ref hp.objs.size] >>= _) _ _ ⟨h3, g, dr, tk + 1, os⟩
  refine wpAny_bind (wpAny_newTuple ?_)
  have hsz3 : h3.objs.size = hp.objs.size + 1 := by rw [hs3.1, hs2.1, hsz1]
  have elt : e < hp.objs.size := Heap.lt_size he
  obtain ⟨h4, hh4⟩ : ∃ h4, h4 = h3.push { cls := .type "tuple", data := .seq #[.int i tk, .ref hp.objs.size] } := ⟨_, rfl⟩
  have he4 : h4.get? e = some { cls := .type "enumerate", dict := none, data := .fields #[x0, .bool f, .ref z, rawInt ((i : Int) + 1), .none, old], slots := #[] } := by rw [hh4]; exact Heap.get?_push_of_some _ he3
  have hN4 : IsTupOf2 h4 (hp.objs.size + 1) (.int i tk) (.ref hp.objs.size) := by rw [hh4, ← hsz3]; exact Heap.get?_push_size _ rfl
  have hsz4 : h4.objs.size = hp.objs.size + 2 := by rw [hh4, Heap.size_push, hsz3]
  have up4 : ∀ c o, c ≠ e → h1.get? c = some o → h4.get? c = some o := fun c o c1 y => by rw [hh4]; exact Heap.get?_push_of_some _ (hs3.extBut c o c1 (hs2.extBut c o c1 y))
  rw [hsz3, show h3.push { cls := .type "tuple", data := .seq #[.int i tk, .ref hp.objs.size] } = h4 from hh4.symm]
  have zc : ∀ h5, (∀ c o, c ≠ e → h4.get? c = some o → h5.get? c = some o) → ZS e z TI TO i1 i2 fp1 fp2 St1 St2 (i + 1) h5 := fun h5 k5 => by
    have k : ∀ c o, c ≠ e → h1.get? c = some o → h5.get? c = some o := fun c o c1 y => k5 c o c1 (up4 c o c1 y)
    obtain ⟨q1, q2, q3, q4⟩ := zs1
    refine ⟨k _ _ (Ne.symm eTI) q1, D1.frame _ _ _ q2 fun b hb o y => k b o (fun y => e1 (by rw [← y]; exact hb)) y, D2.frame _ _ _ q3 fun b hb o y => k b o (fun y => e2 (by rw [← y]; exact hb)) y, ?_⟩
    rcases q4 with ⟨hz, a, b, hTO⟩ | ⟨T, f, oT, hz, hT, r⟩
    · exact .inl ⟨k _ _ (Ne.symm ez) hz, a, b, k _ _ (Ne.symm eTO) hTO⟩
    · exact .inr ⟨T, f, oT, k _ _ (Ne.symm ez) hz, k _ _ r.1 hT, r⟩
  show wpAny _ _ (Builtin.SmallTypes.ownedTupleIsFree (.ref e) >>= _) _ _ ⟨h4, g, dr, tk + 1, os⟩
  have out : ∀ h5, (∀ c o, c ≠ e → h4.get? c = some o → h5.get? c = some o) → h5.objs.size = h4.objs.size → ES e z TO i1 i2 (i + 1) h5 → Q (some (.ref (hp.objs.size + 1))) ⟨h5, g, dr, tk + 1, os⟩ := fun h5 k5 hz5 es5 => by
    have nlt : ∀ c, hp.objs.size ≤ c → c ≠ e := fun c hc y => by rw [y] at hc; exact absurd elt (Nat.not_lt.mpr hc)
    exact hQ x1 x2 h5 (tk + 1) tk p1 p2 es5 (zc h5 k5) (k5 _ _ (nlt _ (Nat.le_refl _)) (up4 _ _ (nlt _ (Nat.le_refl _)) hN1)) (k5 _ _ (nlt _ (Nat.le_succ _)) hN4) (hz5.trans hsz4)
      fun c o c1 c2 c3 c4 c5 y => k5 c o c1 (up4 c o c1 (hk1 c o c2 c3 c4 c5 y))
  rcases alt with ⟨rfl, rfl⟩ | ⟨T, oT, rfl, hT, r1, r2, r3, r4, r5⟩
  · refine wpAny_bind ?_
    unfold Builtin.SmallTypes.ownedTupleIsFree
    refine wpAny_bind (wpAny_field he4 rfl (x := .none) rfl (wpAny_pure ?_))
    simp only [if_true]
    refine wpAny_bind (wpAny_rule (wpAny_bind (wpAny_field he4 rfl (x := old) rfl ?_)))
    refine wpAny_bind (wpAny_setField_rec he4 (by simp) fun h5 he5 hs5 => ?_)
    replace hs5 : Heap.SameBut e h4 h5 := hs5
    replace he5 : IsEnum h5 e z ((i : Int) + 1) (.ref hp.objs.size) := he5
    show wpAny _ _ (Builtin.SmallTypes.ownedTupleHandOut (.ref e) (.ref (hp.objs.size + 1)) >>= _) _ _ ⟨h5, g, dr, tk + 1, os⟩
    refine wpAny_bind ?_
    unfold Builtin.SmallTypes.ownedTupleHandOut
    refine wpAny_bind (wpAny_setField_rec he5 (by simp) fun h6 he6 hs6 => ?_)
    replace hs6 : Heap.SameBut e h5 h6 := hs6
    replace he6 : IsEnumOut h6 e z ((i : Int) + 1) (.ref hp.objs.size) (hp.objs.size + 1) := he6
    refine wpAny_setField_rec he6 (by simp) fun h7 he7 hs7 => ?_
    replace hs7 : Heap.SameBut e h6 h7 := hs7
    replace he7 : IsEnumOut h7 e z ((i : Int) + 1) (.ref hp.objs.size) (hp.objs.size + 1) := he7
    have k7 : ∀ c o, c ≠ e → h4.get? c = some o → h7.get? c = some o := fun c o c1 y => hs7.extBut c o c1 (hs6.extBut c o c1 (hs5.extBut c o c1 y))
    have lt : ∀ {c o}, hp.get? c = some o → hp.objs.size + 1 ≠ c := fun y => Nat.ne_of_gt (Nat.lt_succ_of_lt (Heap.lt_size y))
    refine wpAny_bind (wpAny_letGo (wpAny_pure ⟨_, rfl, wpAny_pure (out h7 k7 (by rw [hs7.1, hs6.1, hs5.1]) (.inr ⟨_, _, false, _, he7, k7 _ _ (lt he) hN4, lt he, ?_, ?_, ?_, ?_⟩))⟩))
    · obtain ⟨o, ho, _⟩ := st.there
      exact lt ho
    · exact Nat.ne_of_gt (Nat.lt_succ_of_lt bTO)
    · exact Nat.ne_of_gt (Nat.lt_succ_of_lt (b1 _ S.mem1))
    · exact Nat.ne_of_gt (Nat.lt_succ_of_lt (b2 _ S.mem2))
  · have hT4 : h4.get? T = some oT := up4 _ _ r1 (hk1 _ _ r2 r3 r4 r5 hT)
    refine wpAny_bind (wpAny_tupleHeld_enum (s := ⟨h4, g, dr, tk + 1, os⟩) he4 hT4 fun h5 he5 hs5 => ?_)
    replace hs5 : Heap.SameBut e h4 h5 := hs5
    simp only [Bool.false_eq_true, if_false]
    exact wpAny_pure ⟨_, rfl, wpAny_pure (out h5 (fun c o c1 y => hs5.extBut c o c1 y) hs5.1 (.inr ⟨_, T, true, oT, he5, hs5.extBut _ _ r1 hT4, r1, r2, r3, r4, r5⟩))⟩
theorem enum_end {Q : Option Value → Shared → Prop} (S : ZipSep2 z TI TO i1 i2 fp1 fp2) (D1 : Draws prog w A.in1.in1 i1 fp1 n1 P1 St1) (D2 : Draws prog w A.in1.in1 i2 fp2 n2 P2 St2) (se : ES e z TO i1 i2 i s.heap) (st : ZS e z TI TO i1 i2 fp1 fp2 St1 St2 i s.heap) (l1 : i ≤ n1) (l2 : i ≤ n2) (hend : i = n1 ∨ i = n2)
    (hQ : ∀ h' tk, (∀ c o, c ≠ z → c ≠ TO → c ≠ i1 → c ≠ i2 → s.heap.get? c = some o → h'.get? c = some o) → Q none { s with heap := h', toks := tk }) : wpAny (model prog w) A (pyNext (.ref e)) Q E s := by
  have hTy : s.TypeIs (.ref e) "enumerate" := se.there
  obtain ⟨x0, f, old, he⟩ : ∃ x0 f old, s.heap.get? e = some { cls := .type "enumerate", dict := none, data := .fields #[x0, .bool f, .ref z, rawInt i, .none, old], slots := #[] } := by
    obtain ⟨old, he⟩ | ⟨old, T, f, oT, he, hT, r⟩ := se
    · exact ⟨.none, false, old, he⟩
    · exact ⟨_, f, old, he⟩
  unfold pyNext
  refine wpAny_bind (wpAny_attempt (wpAny_callSpecial?_slot (name := Str.ofString "__next__") hTy F.slot_enumerate_next (wpAny_call_entry F.slot_enumerate_next hTy F.entry_enumerate_next ?_ (F.args_enumerate_next_1 _))))
  show wpAny _ _ (field (.ref e) 2 >>= _) _ _ _
  refine wpAny_bind (wpAny_field he rfl (x := .ref z) rfl (wpAny_bind (next_end S D1 D2 st l1 l2 hend fun g tk x hk hx => ?_)))
  obtain ⟨o, ho, hc⟩ := hx
  refine wpAny_bind (wpAny_isInstance (T := "StopIteration") (b := true) ⟨o, ho, hc⟩ isSubtype_stop ?_)
  exact wpAny_pure (hQ _ _ hk)
end
end EZ
end PySem

/-! dict(enumerate(zip(a, b))): the loop, the expression. -/
namespace PySem
namespace EZ
section
variable {z TI TO i1 i2 e d : Addr} {fp1 fp2 : List Addr} {St1 St2 : Nat → Heap → Prop} {i : Nat} {h h' : Heap}
theorem ES.keep (st : ES e z TO i1 i2 i h) (hd : d ≠ e) (k : ∀ c o, c ≠ d → h.get? c = some o → h'.get? c = some o) (kd : ∃ o, h'.get? d = some o) : ES e z TO i1 i2 i h' := by
  obtain ⟨old, he⟩ | ⟨old, T, f, oT, he, hT, r⟩ := st
  · exact .inl ⟨old, k _ _ (Ne.symm hd) he⟩
  · by_cases hTd : T = d
    · obtain ⟨o, ho⟩ := kd
      exact .inr ⟨old, T, f, o, k _ _ (Ne.symm hd) he, by rw [hTd]; exact ho, r⟩
    · exact .inr ⟨old, T, f, oT, k _ _ (Ne.symm hd) he, k _ _ hTd hT, r⟩
variable {prog : Program} {w : World} {A : Around} {n1 n2 : Nat} {P1 P2 : Nat → Value → Prop}
theorem ZS.keep (D1 : Draws prog w A i1 fp1 n1 P1 St1) (D2 : Draws prog w A i2 fp2 n2 P2 St2) (st : ZS e z TI TO i1 i2 fp1 fp2 St1 St2 i h) (dz : d ≠ z) (dTI : d ≠ TI) (dTO : d ≠ TO) (d1 : d ∉ fp1) (d2 : d ∉ fp2) (k : ∀ c o, c ≠ d → h.get? c = some o → h'.get? c = some o) (kd : ∃ o, h'.get? d = some o) :
    ZS e z TI TO i1 i2 fp1 fp2 St1 St2 i h' := by
  obtain ⟨q1, q2, q3, q4⟩ := st
  refine ⟨k _ _ (Ne.symm dTI) q1, D1.frame _ _ _ q2 fun b hb o y => k b o (fun q => d1 (by rw [← q]; exact hb)) y, D2.frame _ _ _ q3 fun b hb o y => k b o (fun q => d2 (by rw [← q]; exact hb)) y, ?_⟩
  rcases q4 with ⟨hz, a, b, hTO⟩ | ⟨T, f, oT, hz, hT, r⟩
  · exact .inl ⟨k _ _ (Ne.symm dz) hz, a, b, k _ _ (Ne.symm dTO) hTO⟩
  · by_cases hTd : T = d
    · obtain ⟨o, ho⟩ := kd
      exact .inr ⟨T, f, o, k _ _ (Ne.symm dz) hz, by rw [hTd]; exact ho, r⟩
    · exact .inr ⟨T, f, oT, k _ _ (Ne.symm dz) hz, k _ _ hTd hT, r⟩
end
end EZ
end PySem
namespace Pyp
open PySem PySem.Spec PyProof.Rows L2 PySem.EZ
section
variable {X : Cx} {pins : List (Addr × Obj)} {σ : L2.St}
theorem dset {A : Around} {H : Hp} {s : Shared} {E : Value → Shared → Prop} {d : Addr} {kvs : List (Key × V)} {k : Key} {v : V} {u r : Value} {Q : Unit → Shared → Prop} (I : Inv X pins σ H s) (hD : H d = some (.dK kvs)) (hz : kvs.length < sizeLine) (ry : RelV (kV k) u) (rv : RelV v r)
    (h : ∀ g tk, Inv X pins σ (upd H d (.dK (putK kvs k v))) { s with heap := g, toks := tk } → Heap.SameBut d s.heap g → (∃ o, g.get? d = some o) → Q () { s with heap := g, toks := tk }) : wpAny (model X.prog X.w) A (dictSet d u r) Q E s := by
  obtain ⟨z, hd, vs, rel, dd⟩ := dk_of I.hok hD
  have hl : (putK kvs k v).length ≤ sizeLine := by have := length_putK kvs k v; omega
  refine wpAny_dictSet_pairs (hsz := by rw [← rel.length]; exact z) (kV_is ry) dd fun g dd' hs => ?_
  have he : ∃ q, g.get? d = some q := let ⟨q, _, _, hq, _⟩ := dd'; ⟨q, hq⟩
  exact h g _ (d_write I (by rw [hD]; exact True.intro) hs he (dk_new hl hd (rel.put k rv) dd')) hs he
theorem turnedL {H : Hp} {s : Shared} {ch : List Addr} {g : Heap} {t' : Nat} (I : Inv X pins σ H s) (k : ∀ b o, b ∉ ch → s.heap.get? b = some o → g.get? b = some o) (hf : ∀ b ∈ ch, FpOk X pins H b) : Inv X pins σ H { s with heap := g, toks := t' } := by
  have nit : ∀ b u, H b = some u → b ∉ ch := fun b u y z => by
    have q := (hf b z).1
    rw [q] at y; cases y
  refine I.step (g' := s.gens) (d' := s.drawn) (ch := ch) (fun b hb => ⟨(hf b hb).2.2.2.1, (hf b hb).2.1, (hf b hb).2.2.2.2.1, (hf b hb).2.2.2.2.2⟩) (fun b o _ _ hc y _ => k b o hc y) (fun b o _ _ hc y _ => ⟨o.slots, k b o hc y⟩) (fun _ _ _ _ n => n)
    (fun b o hc y => ⟨o, k b o hc y⟩) (fun _ _ y => y) (fun _ _ _ y => y) (fun b ps y => ⟨#[], by rw [y]; simp⟩) (fun m hm => ?_) (fun b u y => ?_) I.bare
  · obtain ⟨o, es, ep, ho, r⟩ := hm
    exact ⟨o, es, ep, k _ o (fun z => (hf _ z).2.1 rfl) ho, r⟩
  · refine (I.hok b u y).stay (fun c v hc q => k c v (hc.elim (fun z => by rw [z]; exact nit b u y) fun z => nit c _ z) q) (fun _ q => q) fun _ _ q => q
/-- the cells of it all lie apart -/
structure Apart (e z TI TO i1 i2 d : Addr) (fp1 fp2 : List Addr) : Prop where
  S : ZipSep2 z TI TO i1 i2 fp1 fp2
  ez : e ≠ z
  eTO : e ≠ TO
  eTI : e ≠ TI
  e1 : e ∉ fp1
  e2 : e ∉ fp2
  de : d ≠ e
  dz : d ≠ z
  dTI : d ≠ TI
  dTO : d ≠ TO
  d1 : d ∉ fp1
  d2 : d ∉ fp2
theorem loop_ez {A : Around} {e z TI TO i1 i2 d : Addr} {its1 its2 : Array Value} {xs ys : List V} {St1 St2 : Nat → Heap → Prop} {fp1 fp2 : List Addr} {E : Value → Shared → Prop} {Q : VK} (hc : A.handled = none) (ap : Apart e z TI TO i1 i2 d fp1 fp2)
    (D1 : Draws X.prog X.w A.in1.in1.in1 i1 fp1 its1.size (fun i v => its1[i]? = some v) St1) (D2 : Draws X.prog X.w A.in1.in1.in1 i2 fp2 its2.size (fun i v => its2[i]? = some v) St2) (rx : Vals xs its1.toList) (ry : Vals ys its2.toList) (Pv : Nat → Hp → Prop)
    (hP : ∀ i H, Pv i H → ∃ kvs, H d = some (.dK kvs) ∧ kvs.length ≤ i) (hn : min its1.size its2.size < sizeLine)
    (step : ∀ i H kvs t x y, Pv i H → H d = some (.dK kvs) → xs[i]? = some x → ys[i]? = some y → H t = none → t ≠ d → Pv (i + 1) (upd (upd H t (.tup [x, y])) d (.dK (putK kvs (.inl (i : Int)) (.ref t)))))
    (hend : ∀ H, Pv (min its1.size its2.size) H → Q (.ref d) H) :
    ∀ (k i : Nat) (c : Int) (H : Hp) (s : Shared), min its1.size its2.size - i = k → i ≤ min its1.size its2.size → Inv X pins σ H s → (∀ b ∈ [e, z, TO, i1, i2], FpOk X pins H b) → ES e z TO i1 i2 i s.heap → ZS e z TI TO i1 i2 fp1 fp2 St1 St2 i s.heap → Pv i H →
      (∀ c ∈ fp1, c < s.heap.objs.size) → (∀ c ∈ fp2, c < s.heap.objs.size) → TO < s.heap.objs.size → TI < s.heap.objs.size →
      codeAny (model X.prog X.w) A (.builtin "dict.update.loop" ⟨[.ref d, .ref e, rawInt c, .none], []⟩) (wants (fun r s2 => r = .none ∧ EP X pins σ Q (.ref d) s2) E) s := by
  have D1' : Draws X.prog X.w A.in1.in1.in1 i1 fp1 its1.size (fun i v => its1[i]? = some v) St1 := D1
  intro k
  induction k with
  | zero =>
    intro i c H s hk hi I hf se st hp b1 b2 bTO bTI
    have hin : i = min its1.size its2.size := by omega
    apply codeAny_builtin entry_update_loop
    rw [Around.under_plainId plain_update_loop]
    show wpAny _ A.in1 (pyNext (.ref e) >>= _) _ _ s
    refine wpAny_bind (enum_end ap.S D1 D2 se st (by omega) (by omega) (by omega) fun g tk hkp => ?_)
    show wpAny _ A.in1 (Builtin.Dict.addKeywords d [] >>= _) _ _ { s with heap := g, toks := tk }
    have I1 : Inv X pins σ H { s with heap := g, toks := tk } := turnedL I (fun b o hb y => by
      simp only [List.mem_cons, List.not_mem_nil, or_false, not_or] at hb
      exact hkp b o hb.2.1 hb.2.2.1 hb.2.2.2.1 hb.2.2.2.2 y) hf
    refine wpAny_bind (wpAny_pure (wpAny_pure ⟨rfl, .ref d, H, I1, rfl, hend H (by rw [← hin]; exact hp)⟩))
  | succ k ih =>
    intro i c H s hk hi I hf se st hp b1 b2 bTO bTI
    have hlt : i < min its1.size its2.size := by omega
    apply codeAny_builtin entry_update_loop
    rw [Around.under_plainId plain_update_loop]
    show wpAny _ A.in1 (pyNext (.ref e) >>= _) _ _ s
    refine wpAny_bind (enum_item ap.S D1 D2 se st (by omega) (by omega) b1 b2 bTO bTI ap.ez ap.eTO ap.eTI ap.e1 ap.e2 fun x1 x2 g tk tk' p1 p2 se1 st1 hN hN2 hsz hkp => ?_)
    obtain ⟨x, hx, rx1⟩ : ∃ x, xs[i]? = some x ∧ RelV x x1 := by
      rcases Vals.at rx i with ⟨_, h2⟩ | ⟨v, u, h1, h2, h3⟩
      · rw [Array.getElem?_toList, p1] at h2; cases h2
      · rw [Array.getElem?_toList, p1] at h2; cases h2
        exact ⟨v, h1, h3⟩
    obtain ⟨y, hy, ry1⟩ : ∃ y, ys[i]? = some y ∧ RelV y x2 := by
      rcases Vals.at ry i with ⟨_, h2⟩ | ⟨v, u, h1, h2, h3⟩
      · rw [Array.getElem?_toList, p2] at h2; cases h2
      · rw [Array.getElem?_toList, p2] at h2; cases h2
        exact ⟨v, h1, h3⟩
    obtain ⟨kvs, hD, hkl⟩ := hP i H hp
    have fr : H s.heap.objs.size = none := I.hok.fresh (Nat.le_refl _)
    have dn : d ≠ s.heap.objs.size := ne_of_none hD fr
    have new : ObjOk X.prog X.w (upd H s.heap.objs.size (.tup [x, y])) g s.heap.objs.size (.tup [x, y]) := ⟨by show 2 ≤ sizeLine; decide, [x1, x2], .cons rx1 (.cons ry1 .nil), ⟨_, hN, rfl, _, rfl⟩⟩
    have I1 : Inv X pins σ (upd H s.heap.objs.size (.tup [x, y])) { s with heap := g, toks := tk } := I.turnedNew (t' := tk) (ch := [e, z, TO, i1, i2]) (fun b o hb yy => by
      simp only [List.mem_cons, List.not_mem_nil, or_false, not_or] at hb
      exact hkp b o hb.1 hb.2.1 hb.2.2.1 hb.2.2.2.1 hb.2.2.2.2 yy) hf (Nat.le_refl _) new
    refine wpAny_bind (wpAny_holding (wpAny_bind (wpAny_tryCatch (wpAny_pairItems (.inl ⟨_, hN2, rfl, _, rfl⟩) (wpAny_holding ?_)))))
    refine dset (k := .inl (i : Int)) (v := .ref s.heap.objs.size) (kvs := kvs) I1 (by rw [upd_ne dn]; exact hD) (by omega) ⟨tk', rfl⟩ rfl fun g2 tk2 I2 hs he => ?_
    replace hs : Heap.SameBut d g g2 := hs
    have sz2 : g2.objs.size = s.heap.objs.size + 2 := by rw [hs.1, hsz]
    have le2 : s.heap.objs.size ≤ g2.objs.size := by rw [sz2]; exact Nat.le_add_right _ _
    have k2 : ∀ c o, c ≠ d → g.get? c = some o → g2.get? c = some o := fun c o c1 yy => hs.extBut c o c1 yy
    refine wpAny_pure ⟨plainId_quiet plain_update_loop _, ih (i + 1) (c + 1) _ _ (by omega) (by omega) I2 (fun b hb => ?_) (se1.keep ap.de k2 he) (st1.keep D1 D2 ap.dz ap.dTI ap.dTO ap.d1 ap.d2 k2 he) (step i H kvs _ x y hp hD hx hy fr (Ne.symm dn))
      (fun c hc => ?_) (fun c hc => ?_) ?_ ?_⟩
    · obtain ⟨h0, r⟩ := hf b hb
      refine ⟨?_, r⟩
      have bd : b ≠ d := fun yy => by rw [yy, hD] at h0; cases h0
      have bn : b ≠ s.heap.objs.size := by
        have lt : b < s.heap.objs.size := by
          simp only [List.mem_cons, List.not_mem_nil, or_false] at hb
          rcases hb with rfl | rfl | rfl | rfl | rfl
          · obtain ⟨o, ho, _⟩ := se.there
            exact Heap.lt_size ho
          · obtain ⟨o, ho, _⟩ := st.there
            exact Heap.lt_size ho
          · exact bTO
          · exact b1 _ ap.S.mem1
          · exact b2 _ ap.S.mem2
        exact Nat.ne_of_lt lt
      rw [upd_ne bd, upd_ne bn]
      exact h0
    · exact Nat.lt_of_lt_of_le (b1 c hc) le2
    · exact Nat.lt_of_lt_of_le (b2 c hc) le2
    · exact Nat.lt_of_lt_of_le bTO le2
    · exact Nat.lt_of_lt_of_le bTI le2
theorem apart_of (n a b : Nat) (ha : a < n) (hb : b < n) : Apart (n + 5) (n + 4) (n + 2) (n + 3) n (n + 1) (n + 6) [n, a] [n + 1, b] where
  S := sep_of n a b ha hb
  ez := by show n + 5 ≠ n + 4; omega
  eTO := by show n + 5 ≠ n + 3; omega
  eTI := by show n + 5 ≠ n + 2; omega
  e1 := by simp only [List.mem_cons, List.not_mem_nil, or_false, not_or]; exact ⟨by show n + 5 ≠ n; omega, by show n + 5 ≠ a; omega⟩
  e2 := by simp only [List.mem_cons, List.not_mem_nil, or_false, not_or]; exact ⟨by show n + 5 ≠ n + 1; omega, by show n + 5 ≠ b; omega⟩
  de := by show n + 6 ≠ n + 5; omega
  dz := by show n + 6 ≠ n + 4; omega
  dTI := by show n + 6 ≠ n + 2; omega
  dTO := by show n + 6 ≠ n + 3; omega
  d1 := by simp only [List.mem_cons, List.not_mem_nil, or_false, not_or]; exact ⟨by show n + 6 ≠ n; omega, by show n + 6 ≠ a; omega⟩
  d2 := by simp only [List.mem_cons, List.not_mem_nil, or_false, not_or]; exact ⟨by show n + 6 ≠ n + 1; omega, by show n + 6 ≠ b; omega⟩
/-- what the expression asks -/
def rEZ (K : PySem.W.Frag) : List V → Hp → VK → Prop := fun vs H Q => ∃ (a b : Addr) (xs ys : List V), vs = [.ref a, .ref b] ∧ SqT K H a xs ∧ SqT K H b ys ∧ min xs.length ys.length < 1000000 ∧ ∀ d, H d = none → ∃ Pv : Nat → Hp → Prop, Pv 0 (upd H d (.dK [])) ∧
  (∀ i H, Pv i H → ∃ kvs, H d = some (.dK kvs) ∧ kvs.length ≤ i) ∧
  (∀ i H kvs t x y, Pv i H → H d = some (.dK kvs) → xs[i]? = some x → ys[i]? = some y → H t = none → t ≠ d → Pv (i + 1) (upd (upd H t (.tup [x, y])) d (.dK (putK kvs (.inl (i : Int)) (.ref t))))) ∧
  ∀ H, Pv (min xs.length ys.length) H → Q (.ref d) H
theorem run_ez {H : Hp} {s : Shared} {Q : VK} {vs : List V} {us : List Value} (hc : X.calm = true) (I : Inv X pins σ H s) (r : Vals vs us) (h : rEZ X.K vs H Q) :
    wpAny (model X.prog X.w) X.A (call (.type "zip") us) (fun zv s1 => wpAny (model X.prog X.w) X.A (call (.type "enumerate") [zv]) (fun ev s2 => wpAny (model X.prog X.w) X.A (call (.type "dict") [ev]) (EP X pins σ Q) X.xe s2) X.xe s1) X.xe s := by
  obtain ⟨a, b, xs, ys, rfl, hx, hy, hlen, h⟩ := h
  obtain ⟨u1, u2, rfl, r1, r2⟩ := vals2 r
  obtain rfl : u1 = Value.ref a := r1
  obtain rfl : u2 = Value.ref b := r2
  obtain ⟨its, rv, t1, la⟩ := inv_seq (t := true) I (by unfold Sq; rw [if_pos rfl]; exact hx)
  obtain ⟨its2, rv2, t2, lb⟩ := inv_seq (t := true) I (by unfold Sq; rw [if_pos rfl]; exact hy)
  have t1 : s.heap.IsTuple a its.toArray := t1
  have t2 : s.heap.IsTuple b its2.toArray := t2
  have s1 : its.toArray.size = xs.length := by rw [List.size_toArray, rv.length]
  have s2 : its2.toArray.size = ys.length := by rw [List.size_toArray, rv2.length]
  refine zip_begins2 (begins_tuple a its.toArray) (begins_tuple b its2.toArray) t1 t2 fun h1 hz hTI hTO g1 g2 hsz hk => ?_
  have I1 : Inv X pins σ H { s with heap := h1 } := I.kept (t' := s.toks) hk
  refine EZ.begins (s := { s with heap := h1 }) hz fun h2 he hsz2 hk2 => ?_
  replace he : IsEnum h2 h1.objs.size (s.heap.objs.size + 4) 0 .none := he
  replace hsz2 : h2.objs.size = h1.objs.size + 1 := hsz2
  replace hk2 : ∀ b o, h1.get? b = some o → h2.get? b = some o := hk2
  rw [hsz] at he hsz2
  have I2 : Inv X pins σ H { s with heap := h2 } := I1.kept (t' := s.toks) hk2
  show wpAny (model X.prog X.w) X.A (call (.type "dict") [.ref h1.objs.size]) _ _ { s with heap := h2 }
  rw [hsz]
  refine callType_codes (Q₁ := fun ob sq => ob = .ref h2.objs.size ∧ sq = { s with heap := h2.push { cls := .type "dict", data := .dict #[] } }) F.kt_called_dict (F.kt_typeCall_dict_1 _) F.entry_dict_init (kt_code_dict_new (s := { s with heap := h2 }) _ ⟨rfl, rfl⟩) ?_
  rintro ob sq ⟨rfl, rfl⟩
  have hTd : Shared.TypeIs { s with heap := h2.push { cls := .type "dict", data := .dict #[] } } (.ref h2.objs.size) "dict" := ⟨_, Heap.get?_push_size _ rfl, rfl⟩
  refine ⟨hTd, F.args_dict_init_2 _ _, ?_⟩
  unfold Builtin.«dict.__init__» Builtin.Dict.selfAndRest
  refine wpAny_bind (wpAny_bind (wpAny_notOrdered_dict hTd ?_))
  show wpAny _ _ (pure (h2.objs.size, [Value.ref (s.heap.objs.size + 5)])) _ _ _
  refine wpAny_pure ?_
  have I3 : Inv X pins σ (upd H h2.objs.size (.dK [])) { s with heap := h2.push { cls := .type "dict", data := .dict #[] } } := I2.laid (a := h2.objs.size) (o := .dK []) (t' := s.toks) (fun _ _ q => Heap.get?_push_of_some _ q) (Nat.le_refl _) (dk_empty h2 I2.big)
  have kq : ∀ c o, h2.get? c = some o → (h2.push { cls := .type "dict", data := .dict #[] }).get? c = some o := fun c o y => Heap.get?_push_of_some _ y
  have heq := kq _ _ he
  generalize hq : h2.push { cls := .type "dict", data := .dict #[] } = hq0 at I3 kq heq hTd
  have hzq : hq0.objs.size = s.heap.objs.size + 7 := by rw [← hq, Heap.size_push, hsz2]
  have hde : h2.objs.size = s.heap.objs.size + 6 := hsz2
  rw [hde] at I3 ⊢
  show wpAny _ X.A.in1.in1 (Builtin.Dict.updateFrom "dict.__init__" (s.heap.objs.size + 6) (.ref (s.heap.objs.size + 5)) [] .none) _ _ { s with heap := hq0 }
  unfold Builtin.Dict.updateFrom
  refine wpAny_bind (wpAny_typeOf (T := "enumerate") ⟨_, heq, rfl⟩ ?_)
  rw [if_pos (by decide)]
  refine wpAny_bind (getAttrOr_miss_enumerate (s := { s with heap := hq0 }) heq rfl rfl rfl enumerate_no_keys (by decide +kernel) (I.ok.hd hc) fun h3 tk3 hk3 => ?_)
  simp only [Option.isNone_none, if_true]
  have he3 := hk3 _ _ heq
  refine wpAny_bind (wpAny_rule (wpAny_bind (wpAny_pyIter_enum (s := { s with heap := h3, toks := tk3 }) he3 (wpAny_pure ⟨plainId_quiet plain_update_loop _, ?_⟩))))
  have I4 : Inv X pins σ (upd H (s.heap.objs.size + 6) (.dK [])) { s with heap := h3, toks := tk3 } := I3.kept (t' := tk3) hk3
  have hdn : H (s.heap.objs.size + 6) = none := I.hok.fresh (Nat.le_add_right _ _)
  obtain ⟨Pv, p0, p1, p2, p3⟩ := h (s.heap.objs.size + 6) hdn
  have up : ∀ c o, h1.get? c = some o → h3.get? c = some o := fun c o y => hk3 c o (kq c o (hk2 c o y))
  have le3 : s.heap.objs.size + 7 ≤ h3.objs.size := by
    have : ∃ o, hq0.get? (s.heap.objs.size + 6) = some o := by
      obtain ⟨o, ho, _⟩ := hTd
      rw [hde] at ho
      exact ⟨o, ho⟩
    obtain ⟨o, ho⟩ := this
    exact Heap.lt_size (hk3 _ _ ho)
  have hm : min its.toArray.size its2.toArray.size = min xs.length ys.length := by rw [s1, s2]
  refine loop_ez (A := X.A.in1) (fp1 := [s.heap.objs.size, a]) (fp2 := [s.heap.objs.size + 1, b]) (its1 := its.toArray) (its2 := its2.toArray) (i1 := s.heap.objs.size) (i2 := s.heap.objs.size + 1) (TI := s.heap.objs.size + 2) (TO := s.heap.objs.size + 3) (z := s.heap.objs.size + 4) (I.ok.hd hc) (apart_of _ a b la lb)
    (Draws.tuple (A := X.A.in1.in1.in1.in1) (I.ok.hd hc) _ a (Nat.ne_of_lt la) its.toArray) (Draws.tuple (A := X.A.in1.in1.in1.in1) (I.ok.hd hc) _ b (Nat.ne_of_lt (Nat.lt_succ_of_lt lb)) its2.toArray) (by simpa using rv) (by simpa using rv2) Pv p1 (by rw [hm, sizeLine_eq]; omega) p2 (by rw [hm]; exact p3) (min its.toArray.size its2.toArray.size) 0 0 _ _ rfl (Nat.zero_le _) I4 (fun c hcm => ?_)
    (.inl ⟨.none, he3⟩) ⟨up _ _ hTI, ⟨⟨_, up _ _ g1, rfl, rfl⟩, t1.at fun o y => up _ _ (hk _ _ y)⟩, ⟨⟨_, up _ _ g2, rfl, rfl⟩, t2.at fun o y => up _ _ (hk _ _ y)⟩, .inl ⟨up _ _ hz, _, _, up _ _ hTO⟩⟩ p0 (fun c hcm => ?_) (fun c hcm => ?_) ?_ ?_
  · have le : s.heap.objs.size ≤ c ∧ c ≠ s.heap.objs.size + 6 := by
      simp only [List.mem_cons, List.not_mem_nil, or_false] at hcm
      generalize s.heap.objs.size = n at hcm ⊢
      rcases hcm with rfl | rfl | rfl | rfl | rfl
      · exact ⟨Nat.le_add_right _ _, by show n + 5 ≠ n + 6; omega⟩
      · exact ⟨Nat.le_add_right _ _, by show n + 4 ≠ n + 6; omega⟩
      · exact ⟨Nat.le_add_right _ _, by show n + 3 ≠ n + 6; omega⟩
      · exact ⟨Nat.le_refl _, Nat.ne_of_lt (Nat.lt_add_of_pos_right (by decide))⟩
      · exact ⟨Nat.le_add_right _ _, by show n + 1 ≠ n + 6; omega⟩
    exact I.fpOk le.1 (by rw [upd_ne le.2]; exact I.hok.fresh le.1)
  · refine Nat.lt_of_lt_of_le ?_ le3
    simp only [List.mem_cons, List.not_mem_nil, or_false] at hcm
    rcases hcm with rfl | rfl
    · exact Nat.lt_add_of_pos_right (by decide)
    · exact Nat.lt_of_lt_of_le la (Nat.le_add_right _ _)
  · refine Nat.lt_of_lt_of_le ?_ le3
    simp only [List.mem_cons, List.not_mem_nil, or_false] at hcm
    rcases hcm with rfl | rfl
    · exact Nat.add_lt_add_left (by decide) _
    · exact Nat.lt_of_lt_of_le lb (Nat.le_add_right _ _)
  · exact Nat.lt_of_lt_of_le (Nat.add_lt_add_left (by decide) _) le3
  · exact Nat.lt_of_lt_of_le (Nat.add_lt_add_left (by decide) _) le3
end
end Pyp

/-! dict(enumerate(zip(a, b))) as an expression. -/
namespace Pyp
open PySem PySem.Spec PyProof.Rows L2
theorem putK_new {kvs : List (Key × V)} {k : Key} {v : V} (h : ∀ p ∈ kvs, p.1 ≠ k) : putK kvs k v = kvs ++ [(k, v)] := by
  unfold putK
  have e : kvs.any (fun kv => decide (kv.1 = k)) = false := by
    rw [List.any_eq_false]
    intro p hp
    simpa using h p hp
  rw [e]; rfl
theorem rngD_succ : ∀ (n : Nat) (lo : Int), rngD lo (n + 1) = rngD lo n ++ [.int (lo + n)]
  | 0, lo => by
    rw [rngD, rngD, rngD]
    simp
  | n + 1, lo => by
    rw [rngD, rngD_succ n (lo + 1), rngD]
    simp only [List.cons_append]
    congr 3
    simp
    omega
theorem rng_lt {n : Nat} {kvs : List (Key × V)} (h : (rngD 0 n).map keyOf = kvs.map (fun p => some p.1)) : ∀ p ∈ kvs, p.1 ≠ .inl (n : Int) := by
  intro p hp e
  obtain ⟨i, hi, hpi⟩ := List.mem_iff_getElem.mp hp
  have hl : (rngD 0 n).length = kvs.length := by have := congrArg List.length h; simpa using this
  rw [rngD_length] at hl
  have e1 : ((rngD 0 n).map keyOf)[i]? = some (some p.1) := by rw [h, List.getElem?_map, List.getElem?_eq_getElem hi, hpi]; rfl
  rw [List.getElem?_map] at e1
  obtain ⟨d, hd, e2⟩ := Option.map_eq_some_iff.mp e1
  have e3 := rngD_get _ _ _ _ hd
  subst e3
  rw [e] at e2
  have e4 : (some (Sum.inl (0 + (i : Int))) : Option Key) = some (Sum.inl (n : Int)) := e2
  injection e4 with e5
  injection e5 with e6
  omega
section
variable {X : Cx} {W : WX} {a b : Expr} {pos p p2 p3 pos2 pos3 : Pos} {xs : Ax}
theorem ez_core (ha : SA X W [a, b] xs) {M m σ H env ph} {Q : VK} (r : Rel (kx X) M m H ph) (er : EnvR (kx X) M m σ H env) (q : Post X W M m σ H (GE X M m H Q) (eDEZ xs env ph)) : tWA X [a, b] σ H fun vs H1 => rEZ X.K vs H1 Q := by
  have q' : Post X W M m σ H (GE X M m H Q) ((xs env ph).bind fun vs ph1 => match dats vs with
    | some [.tup as, .tup bs] => if (zipD as bs).length < 1000000 then .ok (.own (.dic (rngD 0 (zipD as bs).length) (zipD as bs))) ph1 else .bad
    | _ => .bad) := q
  refine ha.bind r er q' fun vals ph1 vs H1 f1 r1 er1 rv q1 => ?_
  split at q1
  · rename_i as bs ed
    have rr := rv.dats ed
    rw [Reps] at rr
    obtain ⟨v1, vs1, rfl, ra, rr⟩ := rr
    rw [Reps] at rr
    obtain ⟨v2, vs2, rfl, rb, rr⟩ := rr
    rw [Reps] at rr
    subst rr
    rw [Rep] at ra rb
    obtain ⟨pa, xa, rfl, ta, rsa⟩ := ra
    obtain ⟨pb, xb, rfl, tb, rsb⟩ := rb
    have hzl : (zipD as bs).length = min xa.length xb.length := by rw [zipD_length, rsa.length, rsb.length]
    split at q1
    · rename_i hlen
      refine ⟨pa, pb, xa, xb, rfl, ta.sq, tb.sq, by rw [← hzl]; exact hlen, fun d hd => ⟨fun i Hc => Frame m H1 Hc ∧ Rel (kx X) (MAdd M d) m Hc ph1 ∧ ∃ kvs, Hc d = some (.dK kvs) ∧ (rngD 0 i).map keyOf = kvs.map (fun p => some p.1) ∧ Reps (kx X) (MAdd M d) Hc ((zipD as bs).take i) (kvs.map (·.2)),
        ⟨Frame.new hd, r1.newM hd, [], upd_same, rfl, by rw [List.take_zero]; exact Reps.nil⟩, ?_, ?_, ?_⟩⟩
      · rintro i Hc ⟨_, _, kvs, h1, h2, _⟩
        refine ⟨kvs, h1, ?_⟩
        have := congrArg List.length h2
        rw [List.length_map, List.length_map, rngD_length] at this
        omega
      · rintro i Hc kvs t x y ⟨f, rc, kvs', h1, h2, h3⟩ h1' hx hy ht htd
        rw [h1] at h1'
        cases h1'
        have dm : d ∉ m := fun z => r1.notM hd (r1.sub d z)
        have kp1 : KeepP (MAdd M d) H1 Hc := fun c o h n => f c o h fun z => n (.inl (r1.sub c z))
        obtain ⟨da, ea, rda⟩ := (Reps.keep kp1 _ _ (Reps.fresh hd _ _ rsa)).get' hx
        obtain ⟨db, eb, rdb⟩ := (Reps.keep kp1 _ _ (Reps.fresh hd _ _ rsb)).get' hy
        have hiz : i < (zipD as bs).length := by
          have l1 := (List.getElem?_eq_some_iff.mp hx).1
          have l2 := (List.getElem?_eq_some_iff.mp hy).1
          rw [hzl]; omega
        obtain ⟨da', db', ea', eb', eab⟩ := zipD_get _ _ i _ (List.getElem?_eq_getElem hiz)
        rw [ea] at ea'; rw [eb] at eb'
        cases ea'; cases eb'
        have rx : Rep (kx X) (MAdd M d) (upd Hc t (.tup [x, y])) (.tup [da, db]) (.ref t) := tup_new rc ht (.cons rda (.cons rdb .nil))
        have kd : KeepP (MAdd M d) (upd Hc t (.tup [x, y])) (upd (upd Hc t (.tup [x, y])) d (.dK (putK kvs (.inl (i : Int)) (.ref t)))) := upd_keep (.inr rfl)
        refine ⟨fun c o h n => ?_, (rc.new ht).updOwn (.inr rfl) dm, putK kvs (.inl (i : Int)) (.ref t), upd_same, ?_, ?_⟩
        · have hc := f c o h n
          rw [upd_ne (ne_of_none h hd), upd_ne (ne_of_none hc ht)]
          exact hc
        · rw [putK_new (rng_lt h2), rngD_succ, List.map_append, List.map_append, h2]
          simp [keyOf]
        · have e0 := putK_new (v := .ref t) (rng_lt h2)
          rw [show (putK kvs (.inl (i : Int)) (V.ref t)).map (·.2) = kvs.map (·.2) ++ [V.ref t] from by rw [e0, List.map_append]; rfl, List.take_add_one, List.getElem?_eq_getElem hiz, eab]
          exact Reps.append (Reps.keep kd _ _ (Reps.keep (keep_new ht) _ _ h3)) (.cons (Rep.keep kd _ _ rx) .nil)
      · rintro Hc ⟨f, rc, kvs, h1, h2, h3⟩
        have k0 : ∀ c, M c → MAdd M d c := fun c z => .inl z
        rw [← hzl] at h2 h3
        rw [List.take_length] at h3
        have cont : Cont (kx X) (MAdd M d) Hc d (.dic (rngD 0 (zipD as bs).length) (zipD as bs)) := .inl ⟨kvs, h1, h2, h3⟩
        have g : GE X M m H Q (.own (.dic (rngD 0 (zipD as bs).length) (zipD as bs))) ph1 := q1
        refine g (.ref d) Hc (f1.trans f) (rc.anti k0 r1.sub) ⟨d, rfl, f1.back r1 hd, r1.notM hd, cont.anti k0⟩ fun d' e' a' ea' => ?_
        cases e'; cases ea'
        exact ⟨rc, cont⟩
    · exact q1.elim
  · exact q1.elim
theorem s_dez (hc : X.calm = true) (hm : X.mg "dict" = none) (hm2 : X.mg "enumerate" = none) (hm3 : X.mg "zip" = none) (ha : SA X W [a, b] xs) (hg : Gl X "dict" := by rfl) (hg2 : Gl X "enumerate" := by rfl) (hg3 : Gl X "zip" := by rfl)
    (hs : starEach [a, b] X.env = (false, eval a X.env) :: starEach [b] X.env := by rfl) (hpl : (backTo pos3 (starEach [b] X.env)).any (·.1) = false := by rfl) :
    SE X W (.Call (.Name "dict" p) [.Call (.Name "enumerate" p2) [.Call (.Name "zip" p3) [a, b] [] pos3] [] pos2] [] pos) (eDEZ xs) := by
  refine ⟨fun M m σ H env ph r er Q q pins s I => ?_⟩
  have run := ez_core ha r er q
  refine wpAny_Call_Name_kw (ld_blt I hg hm (u := .type "dict") (by first | rfl | decide +kernel) ?_ (by decide) (by decide))
  refine PyProof.Rows.callWith_type1 ?_ rfl rfl
  refine Calls.spliced_cons ?_
  refine wpAny_Call_Name_kw (ld_blt I hg2 hm2 (u := .type "enumerate") (by first | rfl | decide +kernel) ?_ (by decide) (by decide))
  refine PyProof.Rows.callWith_type1 ?_ rfl rfl
  refine Calls.spliced_cons ?_
  refine wpAny_Call_Name_kw (ld_blt I hg3 hm3 (u := .type "zip") (by first | rfl | decide +kernel) ?_ (by decide) (by decide))
  refine PyProof.Rows.callWith_type1 (thn (run pos3 pins s I) fun us s1 ⟨vs, H1, I1, r1, q1⟩ => ?_) hs hpl
  exact thn (run_ez hc I1 r1 q1) fun zv s2 h2 => Calls.spliced_nil (thn h2 fun ev s3 h3 => Calls.spliced_nil h3)
end
end Pyp

namespace Pyp
open PySem L2
def f__law_same : Nat → Fn
  | 0 => runF 4 sBad
  | k + 1 => runF 4 (sSeq (sIf (tB (eIsi [.tList, .tTuple] (eVar 1)))
    (sSeq (sIf (tOr (tB (eBin dNe (eIsi [.tList] (eVar 0)) (eIsi [.tList] (eVar 1)))) (tB (eBin dNe (eIsi [.tTuple] (eVar 0)) (eIsi [.tTuple] (eVar 1)))))
      (sRet (eC (.bl false)))
      sNx)
    (sRet (eAnd (eBin dEq (eB bLenA (aCons (eVar 0) aNil)) (eB bLenA (aCons (eVar 1) aNil))) (eB bAll (aCons (eComp [2, 3] (gT 2 (gsCons (gN 2) (gsCons (gN 3) gsNil))) (iZipX false (aCons (eVar 0) (aCons (eVar 1) aNil))) tYesX (eCall (f__law_same k) (aCons (eVar 2) (aCons (eVar 3) aNil)))) aNil)))))
    sNx)
  (sSeq (sIf (tOr (tB (eBin dIs (eVar 1) (eC .non))) (tB (eIsi [.tBool, .tStr] (eVar 1))))
    (sRet (eAnd (eBin dEq (eVar 0) (eVar 1)) (eAnd (eBin dEq (eIsi [.tBool] (eVar 0)) (eIsi [.tBool] (eVar 1))) (eBin dEq (eBin dIs (eVar 0) (eC .non)) (eBin dIs (eVar 1) (eC .non))))))
    sNx)
  (sRet (eAnd (eIsi [.tInt] (eVar 0)) (eAnd (eNot (eIsi [.tBool] (eVar 0))) (eBin dEq (eVar 0) (eVar 1)))))))
def f__law_early : Fn := runF 0 (sRet (eTup (aCons (eTup (aCons (eC (.str [97, 115, 107])) (aCons (eC (.int 0)) (aCons (eC (.str [110, 101, 120, 116])) (aCons (eTup (aCons (eC (.int 2)) aNil)) (aCons (eC (.int 1)) aNil)))))) (aCons (eTup (aCons (eC (.str [97, 115, 107])) (aCons (eC (.int 2)) (aCons (eC (.str [108, 97, 115, 116])) (aCons (eTup (aCons (eC (.int 1)) aNil)) (aCons (eC (.int 2)) aNil)))))) (aCons (eTup (aCons (eC (.str [111, 114, 100, 101, 114])) (aCons (eC (.int 3)) (aCons (eC (.int 0)) (aCons (eC (.int 3)) (aCons (eC (.int 3)) (aCons (eC (.int 4)) aNil))))))) (aCons (eTup (aCons (eC (.str [115, 97, 121])) (aCons (eC (.bl false)) aNil))) (aCons (eTup (aCons (eC (.str [115, 97, 121])) (aCons (eC (.bl true)) aNil))) aNil)))))))
def f__law_some : Fn := runF 0 (sRet (eTup (aCons (eTup (aCons (eC (.str [97, 115, 107])) (aCons (eC (.int 1)) (aCons (eC (.str [108, 97, 115, 116])) (aCons (eTup (aCons (eC (.int 2)) aNil)) (aCons (eC (.int 1)) aNil)))))) (aCons (eTup (aCons (eC (.str [111, 114, 100, 101, 114])) (aCons (eC (.int 0)) (aCons (eC (.int 2)) (aCons (eC (.int 2)) (aCons (eC (.int 3)) (aCons (eC (.int 3)) aNil))))))) (aCons (eTup (aCons (eC (.str [115, 97, 121])) (aCons (eC (.bl true)) aNil))) (aCons (eTup (aCons (eC (.str [115, 97, 121])) (aCons (eC (.bl false)) aNil))) aNil))))))
def f_tuple_of : Nat → Fn
  | 0 => runF 2 sBad
  | k + 1 => runF 2 (sSeq (sIf (tB (eIsi [.tList, .tTuple] (eVar 0)))
    (sRet (eB bTup (aCons (eComp [1] (gN 1) (iSeqX false (eVar 0)) tYesX (eCall (f_tuple_of k) (aCons (eVar 1) aNil))) aNil)))
    sNx)
  (sRet (eVar 0)))
def f_is_number : Fn := runF 1 (sRet (eAnd (eIsi [.tInt] (eVar 0)) (eNot (eIsi [.tBool] (eVar 0)))))
def f_sure_place : Fn := runF 2 (sIf (tOr (tNot (tB (eCall f_is_number (aCons (eVar 1) aNil)))) (tNot (tB (eChain dLe dLe (eC (.int 0)) (eVar 1) (eBin dAdd (eB bLenA (aCons (eVar 0) aNil)) (eC (.int 1)))))))
    sBad
    sNx)
def f_next_place : Fn := runF 4 (sSeq (sDrop (eCall f_sure_place (aCons (eVar 0) (aCons (eVar 1) aNil))))
  (sSeq (sFor (gN 3) (iRng2X (aCons (eBin dAdd (eVar 1) (eC (.int 1))) (aCons (eBin dAdd (eB bLenA (aCons (eVar 0) aNil)) (eC (.int 1))) aNil)))
    (sIf (tB (eBin dInA (eBin dIxA (eVar 0) (eBin dSub (eVar 3) (eC (.int 1)))) (eVar 2)))
      (sRet (eVar 3))
      sNx))
  (sRet (eBin dAdd (eB bLenA (aCons (eVar 0) aNil)) (eC (.int 1))))))
def f_last_place : Fn := runF 4 (sSeq (sDrop (eCall f_sure_place (aCons (eVar 0) (aCons (eVar 1) aNil))))
  (sSeq (sFor (gN 3) (iRng3X (aCons (eBin dSub (eVar 1) (eC (.int 1))) (aCons (eC (.int 0)) (aCons (eNeg (eC (.int 1))) aNil))))
    (sIf (tB (eBin dInA (eBin dIxA (eVar 0) (eBin dSub (eVar 3) (eC (.int 1)))) (eVar 2)))
      (sRet (eVar 3))
      sNx))
  (sRet (eC (.int 0)))))
def f_found : Fn := runF 4 (sRet (eIf (tB (eBin dEq (eVar 2) (eC (.str [110, 101, 120, 116])))) (eCall f_next_place (aCons (eVar 0) (aCons (eVar 1) (aCons (eVar 3) aNil)))) (eCall f_last_place (aCons (eVar 0) (aCons (eVar 1) (aCons (eVar 3) aNil))))))
def f_gone : Fn := runF 9 (sSeq (sPar [2, 3] (aCons (eCall (f_tuple_of 12) (aCons (eVar 0) aNil)) (aCons (eCall (f_tuple_of 12) (aCons (eVar 1) aNil)) aNil)))
  (sSeq (sParV 4 5 (eLst (aCons (eC (.int 0)) aNil)) (eLst (aCons (eC (.int 0)) (aCons (eBin dAdd (eB bLenA (aCons (eVar 3) aNil)) (eC (.int 1))) aNil))))
  (sSeq (sWhile (tB (eBin dNe (eBin dIxA (eBin dIxA (eVar 2) (eBin dIxA (eVar 4) (eNeg (eC (.int 1))))) (eC (.int 0))) (eC (.str [115, 97, 121]))))
    (sSeq (sSet 6 (eBin dIxA (eVar 2) (eBin dIxA (eVar 4) (eNeg (eC (.int 1))))))
    (sIf (tB (eBin dEq (eBin dIxA (eVar 6) (eC (.int 0))) (eC (.str [97, 115, 107]))))
      (sSeq (sMut 5 fApp (aCons (eCall f_found (aCons (eVar 3) (aCons (eBin dIxA (eVar 5) (eBin dIxA (eVar 6) (eC (.int 1)))) (aCons (eBin dIxA (eVar 6) (eC (.int 2))) (aCons (eBin dIxA (eVar 6) (eC (.int 3))) aNil))))) aNil))
      (sMut 4 fApp (aCons (eBin dIxA (eVar 6) (eC (.int 4))) aNil)))
      (sSeq (sPar [7, 8] (aCons (eBin dIxA (eVar 5) (eBin dIxA (eVar 6) (eC (.int 1)))) (aCons (eBin dIxA (eVar 5) (eBin dIxA (eVar 6) (eC (.int 2)))) aNil)))
      (sMut 4 fApp (aCons (eIf (tB (eBin dLt (eVar 7) (eVar 8))) (eBin dIxA (eVar 6) (eC (.int 3))) (eIf (tB (eBin dEq (eVar 7) (eVar 8))) (eBin dIxA (eVar 6) (eC (.int 4))) (eBin dIxA (eVar 6) (eC (.int 5))))) aNil))))) 100000)
  (sRet (eTup (aCons (eB bTup (aCons (eVar 4) aNil)) (aCons (eB bTup (aCons (eVar 5) aNil)) aNil)))))))
def f_run : Fn := runF 4 (sSeq (sAsg (gT 2 (gsCons (gN 2) (gsCons (gN 3) gsNil))) (eCall f_gone (aCons (eVar 0) (aCons (eVar 1) aNil))))
  (sRet (eTup (aCons (eVar 3) (aCons (eBin dIxA (eBin dIxA (eVar 0) (eBin dIxA (eVar 2) (eNeg (eC (.int 1))))) (eC (.int 1))) aNil)))))
def f_next_knots : Fn := runF 1 (sSeq (sIf (tB (eBin dEq (eBin dIxA (eVar 0) (eC (.int 0))) (eC (.str [115, 97, 121]))))
    (sRet (eTup aNil))
    sNx)
  (sRet (eIf (tB (eBin dEq (eBin dIxA (eVar 0) (eC (.int 0))) (eC (.str [97, 115, 107])))) (eCut (eVar 0) (pAt (eC (.int 4))) pNo) (eCut (eVar 0) (pAt (eC (.int 3))) pNo))))
def f_asks_ahead : Fn := runF 6 (sSeq (sSet 1 (eCall (f_tuple_of 12) (aCons (eVar 0) aNil)))
  (sSeq (sVar 2 (eBin dMul (eLst (aCons (eC (.int 0)) aNil)) (eB bLenA (aCons (eVar 1) aNil))))
  (sSeq (sFor (gT 2 (gsCons (gN 3) (gsCons (gN 4) gsNil))) (iEnumX true (aCons (eVar 1) aNil))
    (sFor (gN 5) (iSeqX true (eCall f_next_knots (aCons (eVar 4) aNil)))
      (sPut 2 (eVar 5) (eB bMaxA (aCons (eBin dIxA (eVar 2) (eVar 5)) (aCons (eBin dAdd (eBin dIxA (eVar 2) (eVar 3)) (eB bInt (aCons (eBin dEq (eBin dIxA (eVar 4) (eC (.int 0))) (eC (.str [97, 115, 107]))) aNil))) aNil))))))
  (sRet (eB bTup (aCons (eVar 2) aNil))))))
def f_depth : Fn := runF 1 (sRet (eB bMaxA (aCons (eCall f_asks_ahead (aCons (eVar 0) aNil)) aNil)))
def f_with_next : Fn := runF 2 (sRet (eBin dAdd (eCut (eVar 0) pNo (pAt (eBin dSub (eB bLenA (aCons (eVar 0) aNil)) (eB bLenA (aCons (eVar 1) aNil))))) (eB bTup (aCons (eVar 1) aNil))))
def f_merged : Fn := runF 13 (sSeq (sParN [2, 3] [eDNew, eDNew])
  (sSeq (sParV 4 5 (eLst aNil) (eLst (aCons (eTup (aCons (eVar 1) (aCons (eC (.bl false)) aNil))) aNil)))
  (sSeq (sWhile (tB (eBin dNe (eVar 5) (eLst aNil)))
    (sSeq (sPopG 5 (gT 2 (gsCons (gN 6) (gsCons (gN 7) gsNil))))
    (sIf (tB (eVar 7))
      (sSeq (sAsg (gT 2 (gsCons (gN 8) (gsCons (gN 9) gsNil))) (eBin dIxA (eVar 0) (eVar 6)))
      (sSeq (sSet 10 (eTup (aCons (eIf (tB (eBin dNe (eBin dIxA (eVar 9) (eC (.int 0))) (eC (.str [115, 97, 121])))) (eVar 8) (eC (.int 0))) (aCons (eCall f_with_next (aCons (eVar 9) (aCons (eComp [11] (gN 11) (iSeqX false (eCall f_next_knots (aCons (eVar 9) aNil))) tYesX (eBin dIxA (eVar 3) (eVar 11))) aNil))) aNil))))
      (sSetD 3 2 (eVar 6) (eVar 10) (eB bLenA (aCons (eVar 2) aNil)))))
      (sIf (tB (eBin dNotInA (eVar 6) (eVar 4)))
        (sSeq (sMut 4 fApp (aCons (eVar 6) aNil))
        (sSeq (sMut 5 fApp (aCons (eTup (aCons (eVar 6) (aCons (eC (.bl true)) aNil))) aNil))
        (sMut 5 fExt (aCons (eComp [11] (gN 11) (iSeqX false (eD dRev (eCall f_next_knots (aCons (eBin dIxA (eBin dIxA (eVar 0) (eVar 6)) (eC (.int 1))) aNil)))) tYesX (eTup (aCons (eVar 11) (aCons (eC (.bl false)) aNil)))) aNil))))
        sNx))) 100000)
  (sRet (eTup (aCons (eDComp [10, 12] (gT 2 (gsCons (gN 10) (gsCons (gN 12) gsNil))) (eVar 2) (eVar 12) (eBin dIxA (eVar 10) (eC (.int 1)))) (aCons (eBin dIxA (eVar 3) (eVar 1)) aNil)))))))
def f_numbered : Fn := runF 10 (sSeq (sAsg (gT 2 (gsCons (gN 2) (gsCons (gN 3) gsNil))) (eCall f_merged (aCons (eVar 0) (aCons (eVar 1) aNil))))
  (sSeq (sVar 4 (eDisp (ppCons (eVar 3) (eC (.int 0)) ppNil)))
  (sSeq (sFor (gN 5) (iSeqX true (eD dSortDR (eVar 2)))
    (sFor (gN 6) (iSeqX true (eCall f_next_knots (aCons (eBin dIxA (eVar 2) (eVar 5)) aNil)))
      (sPutD 4 (eVar 6) (eB bMaxA (aCons (eDGet2 (eVar 4) (eVar 6) (eC (.int 0))) (aCons (eBin dAdd (eBin dIxA (eVar 4) (eVar 5)) (eC (.int 1))) aNil))))))
  (sSeq (sParN [7, 8] [(eLst (aCons (eVar 3) aNil)), (eDisp (ppCons (eVar 3) (eC (.int 0)) ppNil))])
  (sSeq (sFor (gN 9) (iRng2X (aCons (eC (.int 1)) (aCons (eBin dAdd (eD dMaxV (eVar 4)) (eC (.int 1))) aNil)))
    (sFor (gN 5) (iSeqX true (eB bLst (aCons (eVar 7) aNil)))
      (sFor (gN 6) (iSeqX true (eCall f_next_knots (aCons (eBin dIxA (eVar 2) (eVar 5)) aNil)))
        (sIf (tAnd (tB (eBin dEq (eBin dIxA (eVar 4) (eVar 6)) (eVar 9))) (tB (eBin dNotInA (eVar 6) (eVar 8))))
          (sSeq (sPutD 8 (eVar 6) (eB bLenA (aCons (eVar 7) aNil)))
          (sMut 7 fApp (aCons (eVar 6) aNil)))
          sNx))))
  (sRet (eB bTup (aCons (eComp [5] (gN 5) (iSeqX false (eVar 7)) tYesX (eCall f_with_next (aCons (eBin dIxA (eVar 2) (eVar 5)) (aCons (eComp [6] (gN 6) (iSeqX false (eCall f_next_knots (aCons (eBin dIxA (eVar 2) (eVar 5)) aNil))) tYesX (eBin dIxA (eVar 8) (eVar 6))) aNil)))) aNil))))))))
def f_shared : Fn := runF 2 (sSeq (sSet 1 (eCall (f_tuple_of 12) (aCons (eVar 0) aNil)))
  (sRet (eCall f_numbered (aCons (eDEZ (aCons (eCall f_asks_ahead (aCons (eVar 1) aNil)) (aCons (eVar 1) aNil))) (aCons (eC (.int 0)) aNil)))))
def f_mirrored_knot : Fn := runF 4 (sSeq (sIf (tB (eBin dEq (eBin dIxA (eVar 0) (eC (.int 0))) (eC (.str [115, 97, 121]))))
    (sRet (eVar 0))
    sNx)
  (sSeq (sIf (tB (eBin dEq (eBin dIxA (eVar 0) (eC (.int 0))) (eC (.str [97, 115, 107]))))
    (sSeq (sSet 1 (eIf (tB (eBin dLt (eBin dIxA (eVar 0) (eC (.int 1))) (eC (.int 2)))) (eBin dSub (eC (.int 1)) (eBin dIxA (eVar 0) (eC (.int 1)))) (eBin dIxA (eVar 0) (eC (.int 1)))))
    (sRet (eBin dAdd (eTup (aCons (eC (.str [97, 115, 107])) (aCons (eVar 1) (aCons (eIf (tB (eBin dEq (eBin dIxA (eVar 0) (eC (.int 2))) (eC (.str [110, 101, 120, 116])))) (eC (.str [108, 97, 115, 116])) (eC (.str [110, 101, 120, 116]))) aNil)))) (eCut (eVar 0) (pAt (eC (.int 3))) pNo))))
    sNx)
  (sSeq (sSet 2 (eComp [3] (gN 3) (iSeqX false (eCut (eVar 0) (pAt (eC (.int 1))) (pAt (eC (.int 3))))) tYesX (eIf (tB (eBin dLt (eVar 3) (eC (.int 2)))) (eBin dSub (eC (.int 1)) (eVar 3)) (eVar 3))))
  (sRet (eTup (aCons (eC (.str [111, 114, 100, 101, 114])) (aCons (eBin dIxA (eVar 2) (eC (.int 0))) (aCons (eBin dIxA (eVar 2) (eC (.int 1))) (aCons (eBin dIxA (eVar 0) (eC (.int 5))) (aCons (eBin dIxA (eVar 0) (eC (.int 4))) (aCons (eBin dIxA (eVar 0) (eC (.int 3))) aNil)))))))))))
def f_tree_mirrored : Fn := runF 2 (sRet (eB bTup (aCons (eComp [1] (gN 1) (iSeqX false (eCall (f_tuple_of 12) (aCons (eVar 0) aNil))) tYesX (eCall f_mirrored_knot (aCons (eVar 1) aNil))) aNil)))
def f__law_always_right : Fn := runF 4 (sSeq (sPar [0, 1] (aCons (fun _ ph => f__law_early [] ph) (aCons (fun _ ph => f__law_some [] ph) aNil)))
  (sSeq (sVar 2 (eLst (aCons (eCall f_run (aCons (eVar 0) (aCons (eTup (aCons (eC (.int 1)) (aCons (eC (.int 1)) aNil))) aNil))) (aCons (eCall f_run (aCons (eVar 1) (aCons (eTup (aCons (eC (.int 1)) aNil)) aNil))) (aCons (eBin dIxA (eCall f_shared (aCons (eBin dAdd (eCut (eVar 1) pNo (pAt (eC (.int 2)))) (eTup (aCons (eTup (aCons (eC (.str [115, 97, 121])) (aCons (eC (.bl true)) aNil))) (aCons (eTup (aCons (eC (.str [115, 97, 121])) (aCons (eC (.bl false)) aNil))) aNil)))) aNil)) (eC (.int 1))) (aCons (eBin dIxA (eCall f_tree_mirrored (aCons (eVar 1) aNil)) (eC (.int 0))) (aCons (eCall f_depth (aCons (eVar 0) aNil)) aNil)))))))
  (sSeq (sMut 2 fApp (aCons (eCall f_shared (aCons (eTup (aCons (eTup (aCons (eC (.str [111, 114, 100, 101, 114])) (aCons (eC (.int 0)) (aCons (eC (.int 1)) (aCons (eC (.int 1)) (aCons (eC (.int 2)) (aCons (eC (.int 2)) aNil))))))) (aCons (eTup (aCons (eC (.str [115, 97, 121])) (aCons (eC (.bl false)) aNil))) (aCons (eTup (aCons (eC (.str [115, 97, 121])) (aCons (eC (.bl false)) aNil))) aNil)))) aNil)) aNil))
  (sSeq (sSet 3 (eLst (aCons (eTup (aCons (eTup (aCons (eC (.int 0)) (aCons (eC (.int 3)) (aCons (eC (.int 3)) (aCons (eC (.int 2)) aNil))))) (aCons (eC (.bl true)) aNil))) (aCons (eTup (aCons (eTup (aCons (eC (.int 0)) (aCons (eC (.int 2)) (aCons (eC (.int 0)) aNil)))) (aCons (eC (.bl false)) aNil))) (aCons (eBin dIxA (eVar 1) (eC (.int 1))) (aCons (eTup (aCons (eC (.str [97, 115, 107])) (aCons (eC (.int 0)) (aCons (eC (.str [110, 101, 120, 116])) (aCons (eTup (aCons (eC (.int 2)) aNil)) (aCons (eC (.int 1)) aNil)))))) (aCons (eC (.int 2)) aNil)))))))
  (sFz 2 (sRet (eCall (f__law_same 12) (aCons (eVar 2) (aCons (eBin dAdd (eVar 3) (eLst (aCons (eTup (aCons (eTup (aCons (eC (.str [111, 114, 100, 101, 114])) (aCons (eC (.int 0)) (aCons (eC (.int 1)) (aCons (eC (.int 1)) (aCons (eC (.int 1)) (aCons (eC (.int 1)) aNil))))))) (aCons (eTup (aCons (eC (.str [115, 97, 121])) (aCons (eC (.bl false)) aNil))) aNil))) aNil))) aNil)))))))))
def f_is_side : Fn := runF 1 (sRet (eAnd (eIsi [.tStr] (eVar 0)) (eBin dInA (eVar 0) (eC (.tup [(.str [110, 101, 120, 116]), (.str [108, 97, 115, 116])])))))
def f_is_letter : Fn := runF 2 (sRet (eAnd (eCall f_is_number (aCons (eVar 1) aNil)) (eChain dLe dLe (eC (.int 1)) (eVar 1) (eVar 0))))
def f_is_text : Fn := runF 3 (sRet (eAnd (eIsi [.tTuple] (eVar 1)) (eB bAll (aCons (eComp [2] (gN 2) (iSeqX false (eVar 1)) tYesX (eCall f_is_letter (aCons (eVar 0) (aCons (eVar 2) aNil)))) aNil))))
def f_is_letters : Fn := runF 4 (sRet (eAnd (eCall f_is_text (aCons (eVar 0) (aCons (eVar 1) aNil))) (eAnd (eBin dNe (eVar 1) (eTup aNil)) (eB bAll (aCons (eComp [2, 3] (gT 2 (gsCons (gN 2) (gsCons (gN 3) gsNil))) (iZipX false (aCons (eVar 1) (aCons (eCut (eVar 1) (pAt (eC (.int 1))) pNo) aNil))) tYesX (eBin dLt (eVar 2) (eVar 3))) aNil)))))
def f_is_tuple_of : Fn := runF 2 (sRet (eAnd (eIsi [.tTuple] (eVar 0)) (eBin dEq (eB bLenA (aCons (eVar 0) aNil)) (eVar 1))))
def f_is_ask : Fn := runF 2 (sSeq (sIf (tOr (tNot (tB (eCall f_is_tuple_of (aCons (eVar 1) (aCons (eC (.int 3)) aNil))))) (tOr (tNot (tB (eCall f_is_number (aCons (eBin dIxA (eVar 1) (eC (.int 0))) aNil)))) (tB (eBin dLt (eBin dIxA (eVar 1) (eC (.int 0))) (eC (.int 0))))))
    (sRet (eC (.bl false)))
    sNx)
  (sRet (eAnd (eCall f_is_side (aCons (eBin dIxA (eVar 1) (eC (.int 1))) aNil)) (eCall f_is_letters (aCons (eVar 0) (aCons (eBin dIxA (eVar 1) (eC (.int 2))) aNil))))))
def f_is_knot : Fn := runF 5 (sSeq (sIf (tOr (tNot (tB (eIsi [.tTuple] (eVar 2)))) (tOr (tB (eBin dLt (eB bLenA (aCons (eVar 2) aNil)) (eC (.int 2)))) (tNot (tB (eIsi [.tStr] (eBin dIxA (eVar 2) (eC (.int 0))))))))
    (sRet (eC (.bl false)))
    sNx)
  (sSeq (sIf (tB (eBin dEq (eBin dIxA (eVar 2) (eC (.int 0))) (eC (.str [115, 97, 121]))))
    (sRet (eAnd (eBin dEq (eB bLenA (aCons (eVar 2) aNil)) (eC (.int 2))) (eIsi [.tBool] (eBin dIxA (eVar 2) (eC (.int 1))))))
    sNx)
  (sSeq (sIf (tB (eBin dEq (eBin dIxA (eVar 2) (eC (.int 0))) (eC (.str [97, 115, 107]))))
    (sSet 3 (eAnd (eBin dEq (eB bLenA (aCons (eVar 2) aNil)) (eC (.int 5))) (eCall f_is_ask (aCons (eVar 0) (aCons (eCut (eVar 2) (pAt (eC (.int 1))) (pAt (eC (.int 4)))) aNil)))))
    (sSeq (sSet 3 (eAnd (eBin dEq (eBin dIxA (eVar 2) (eC (.int 0))) (eC (.str [111, 114, 100, 101, 114]))) (eAnd (eBin dEq (eB bLenA (aCons (eVar 2) aNil)) (eC (.int 6))) (eB bAll (aCons (eComp [4] (gN 4) (iSeqX false (eCut (eVar 2) (pAt (eC (.int 1))) (pAt (eC (.int 3))))) tYesX (eAnd (eCall f_is_number (aCons (eVar 4) aNil)) (eBin dGe (eVar 4) (eC (.int 0))))) aNil)))))
    (sSet 3 (eAnd (eVar 3) (eBin dNe (eBin dIxA (eVar 2) (eC (.int 1))) (eBin dIxA (eVar 2) (eC (.int 2))))))))
  (sRet (eAnd (eVar 3) (eB bAll (aCons (eComp [4] (gN 4) (iSeqX false (eCall f_next_knots (aCons (eVar 2) aNil))) tYesX (eAnd (eCall f_is_number (aCons (eVar 4) aNil)) (eChain dLt dLt (eC (.int 0)) (eVar 4) (eVar 1)))) aNil)))))))
def f_spots_of : Fn := runF 1 (sRet (eBin dIxA (eDisp (ppCons (eC (.str [115, 97, 121])) (eTup aNil) (ppCons (eC (.str [97, 115, 107])) (eCut (eVar 0) (pAt (eC (.int 1))) (pAt (eC (.int 2)))) (ppCons (eC (.str [111, 114, 100, 101, 114])) (eCut (eVar 0) (pAt (eC (.int 1))) (pAt (eC (.int 3)))) ppNil)))) (eBin dIxA (eVar 0) (eC (.int 0)))))
def f_is_tree : Fn := runF 8 (sSeq (sIf (tOr (tNot (tB (eIsi [.tTuple] (eVar 1)))) (tOr (tB (eBin dEq (eB bLenA (aCons (eVar 1) aNil)) (eC (.int 0)))) (tNot (tB (eB bAll (aCons (eComp [7] (gN 7) (iSeqX false (eVar 1)) tYesX (eCall f_is_knot (aCons (eVar 0) (aCons (eB bLenA (aCons (eVar 1) aNil)) (aCons (eVar 7) aNil))))) aNil))))))
    (sRet (eC (.bl false)))
    sNx)
  (sSeq (sVar 2 (eBin dMul (eLst (aCons (eC .non) aNil)) (eB bLenA (aCons (eVar 1) aNil))))
  (sSeq (sPut 2 (eC (.int 0)) (eC (.int 0)))
  (sSeq (sFor (gT 2 (gsCons (gN 3) (gsCons (gN 4) gsNil))) (iEnumX true (aCons (eVar 1) aNil))
    (sSeq (sIf (tOr (tB (eBin dIs (eBin dIxA (eVar 2) (eVar 3)) (eC .non))) (tNot (tB (eB bAll (aCons (eComp [7] (gN 7) (iSeqX false (eCall f_spots_of (aCons (eVar 4) aNil))) tYesX (eBin dLt (eVar 7) (eBin dAdd (eBin dIxA (eVar 2) (eVar 3)) (eC (.int 2))))) aNil)))))
      (sRet (eC (.bl false)))
      sNx)
    (sSeq (sSet 5 (eBin dAdd (eBin dIxA (eVar 2) (eVar 3)) (eB bInt (aCons (eBin dEq (eBin dIxA (eVar 4) (eC (.int 0))) (eC (.str [97, 115, 107]))) aNil))))
    (sFor (gN 6) (iSeqX true (eCall f_next_knots (aCons (eVar 4) aNil)))
      (sSeq (sIf (tOr (tB (eBin dLe (eVar 6) (eVar 3))) (tAnd (tB (eBin dNe (eBin dIxA (eBin dIxA (eVar 1) (eVar 6)) (eC (.int 0))) (eC (.str [115, 97, 121])))) (tB (eBin dNotInA (eBin dIxA (eVar 2) (eVar 6)) (eTup (aCons (eC .non) (aCons (eVar 5) aNil)))))))
        (sRet (eC (.bl false)))
        sNx)
      (sPut 2 (eVar 6) (eVar 5)))))))
  (sRet (eC (.bl true)))))))
def f_manners : Fn := runF 5 (sSeq (sSet 1 (eComp [2] (gN 2) (iSeqX false (eCall (f_tuple_of 12) (aCons (eVar 0) aNil))) (tB (eBin dEq (eBin dIxA (eVar 2) (eC (.int 0))) (eC (.str [97, 115, 107])))) (eBin dIxA (eVar 2) (eC (.int 2)))))
  (sRet (eB bTup (aCons (eComp [3, 4] (gT 2 (gsCons (gN 3) (gsCons (gN 4) gsNil))) (iSeqX false (eTup (aCons (eTup (aCons (eC (.str [98, 97, 99, 107, 119, 97, 114, 100])) (aCons (eC (.str [110, 101, 120, 116])) aNil))) (aCons (eTup (aCons (eC (.str [111, 110, 119, 97, 114, 100])) (aCons (eC (.str [108, 97, 115, 116])) aNil))) aNil)))) (tB (eBin dNotInA (eVar 4) (eVar 1))) (eVar 3)) aNil))))
def f__law_lists : Nat → Fn
  | 0 => runF 2 sBad
  | k + 1 => runF 2 (sRet (eIf (tB (eIsi [.tList, .tTuple] (eVar 0))) (eComp [1] (gN 1) (iSeqX false (eVar 0)) tYesX (eCall (f__law_lists k) (aCons (eVar 1) aNil))) (eVar 0)))
def f__law_things_right : Fn := runF 9 (sSeq (sAsg (gT 4 (gsCons (gN 0) (gsCons (gN 1) (gsCons (gN 2) (gsCons (gN 3) gsNil))))) (eTup (aCons (fun _ ph => f__law_early [] ph) (aCons (fun _ ph => f__law_some [] ph) (aCons (eTup (aCons (eC (.str [115, 97, 121])) (aCons (eC (.bl true)) aNil))) (aCons (eTup (aCons (eC (.str [115, 97, 121])) (aCons (eC (.bl false)) aNil))) aNil))))))
  (sSeq (sVar 4 (eLst (aCons (eVar 0) (aCons (eVar 1) (aCons (eTup (aCons (eVar 2) aNil)) (aCons (eTup (aCons (eVar 3) aNil)) (aCons (eTup (aCons (eTup (aCons (eC (.str [111, 114, 100, 101, 114])) (aCons (eC (.int 0)) (aCons (eC (.int 1)) (aCons (eC (.int 1)) (aCons (eC (.int 1)) (aCons (eC (.int 1)) aNil))))))) (aCons (eVar 2) aNil))) (aCons (eTup (aCons (eTup (aCons (eC (.str [111, 114, 100, 101, 114])) (aCons (eC (.int 1)) (aCons (eC (.int 0)) (aCons (eC (.int 1)) (aCons (eC (.int 2)) (aCons (eC (.int 1)) aNil))))))) (aCons (eVar 2) (aCons (eVar 3) aNil)))) aNil))))))))
  (sSeq (sMut 4 fApp (aCons (eTup (aCons (eTup (aCons (eC (.str [111, 114, 100, 101, 114])) (aCons (eC (.int 0)) (aCons (eC (.int 1)) (aCons (eC (.int 1)) (aCons (eC (.int 2)) (aCons (eC (.int 2)) aNil))))))) (aCons (eTup (aCons (eC (.str [97, 115, 107])) (aCons (eC (.int 0)) (aCons (eC (.str [110, 101, 120, 116])) (aCons (eTup (aCons (eC (.int 1)) (aCons (eC (.int 2)) aNil))) (aCons (eC (.int 2)) aNil)))))) (aCons (eVar 2) aNil)))) aNil))
  (sSeq (sVar 5 (eLst (aCons (eTup aNil) (aCons (eC .non) (aCons (eC (.str [115, 97, 121])) (aCons (eTup (aCons (eC (.str [115, 97, 121])) (aCons (eC (.bl true)) aNil))) (aCons (eLst (aCons (eVar 2) aNil)) (aCons (eTup (aCons (eB bLst (aCons (eVar 2) aNil)) aNil)) (aCons (eTup (aCons (eTup (aCons (eC (.str [115, 97, 121])) (aCons (eC (.int 1)) aNil))) aNil)) (aCons (eTup (aCons (eTup (aCons (eC (.str [115, 97, 121])) aNil)) aNil)) (aCons (eTup (aCons (eTup (aCons (eC (.str [115, 97, 121])) (aCons (eC (.bl true)) (aCons (eC (.bl true)) aNil)))) aNil)) (aCons (eTup (aCons (eVar 2) (aCons (eVar 3) aNil))) (aCons (eTup (aCons (eTup (aCons (eC (.str [116, 101, 108, 108])) (aCons (eC (.bl true)) aNil))) aNil)) aNil)))))))))))))
  (sSeq (sVar 5 (eBin dAdd (eVar 5) (eLst (aCons (eTup (aCons (eTup (aCons (eC (.str [97, 115, 107])) (aCons (eC (.int 0)) (aCons (eC (.str [110, 101, 120, 116])) (aCons (eTup (aCons (eC (.int 1)) aNil)) (aCons (eC (.int 0)) aNil)))))) (aCons (eVar 2) aNil))) (aCons (eTup (aCons (eTup (aCons (eC (.str [97, 115, 107])) (aCons (eC (.int 0)) (aCons (eC (.str [110, 101, 120, 116])) (aCons (eTup (aCons (eC (.int 1)) aNil)) (aCons (eC (.int 2)) aNil)))))) (aCons (eVar 2) aNil))) (aCons (eTup (aCons (eTup (aCons (eC (.str [97, 115, 107])) (aCons (eC (.int 0)) (aCons (eC (.str [110, 101, 120, 116])) (aCons (eTup aNil) (aCons (eC (.int 1)) aNil)))))) (aCons (eVar 2) aNil))) aNil))))))
  (sSeq (sVar 5 (eBin dAdd (eVar 5) (eLst (aCons (eTup (aCons (eTup (aCons (eC (.str [97, 115, 107])) (aCons (eC (.int 0)) (aCons (eC (.str [110, 101, 120, 116])) (aCons (eTup (aCons (eC (.int 2)) (aCons (eC (.int 1)) aNil))) (aCons (eC (.int 1)) aNil)))))) (aCons (eVar 2) aNil))) (aCons (eTup (aCons (eTup (aCons (eC (.str [97, 115, 107])) (aCons (eC (.int 0)) (aCons (eC (.str [110, 101, 120, 116])) (aCons (eTup (aCons (eC (.int 1)) (aCons (eC (.int 1)) aNil))) (aCons (eC (.int 1)) aNil)))))) (aCons (eVar 2) aNil))) (aCons (eTup (aCons (eTup (aCons (eC (.str [97, 115, 107])) (aCons (eC (.int 0)) (aCons (eC (.str [110, 101, 120, 116])) (aCons (eTup (aCons (eC (.int 1)) (aCons (eC (.int 3)) aNil))) (aCons (eC (.int 1)) aNil)))))) (aCons (eVar 2) aNil))) aNil))))))
  (sSeq (sVar 5 (eBin dAdd (eVar 5) (eLst (aCons (eTup (aCons (eTup (aCons (eC (.str [97, 115, 107])) (aCons (eC (.int 0)) (aCons (eC (.str [110, 101, 120, 116])) (aCons (eLst (aCons (eC (.int 1)) aNil)) (aCons (eC (.int 1)) aNil)))))) (aCons (eVar 2) aNil))) (aCons (eTup (aCons (eTup (aCons (eC (.str [97, 115, 107])) (aCons (eC (.int 0)) (aCons (eC (.str [111, 110])) (aCons (eTup (aCons (eC (.int 1)) aNil)) (aCons (eC (.int 1)) aNil)))))) (aCons (eVar 2) aNil))) (aCons (eTup (aCons (eTup (aCons (eC (.str [97, 115, 107])) (aCons (eC (.int 2)) (aCons (eC (.str [110, 101, 120, 116])) (aCons (eTup (aCons (eC (.int 1)) aNil)) (aCons (eC (.int 1)) aNil)))))) (aCons (eVar 2) aNil))) aNil))))))
  (sSeq (sVar 5 (eBin dAdd (eVar 5) (eLst (aCons (eTup (aCons (eTup (aCons (eC (.str [97, 115, 107])) (aCons (eNeg (eC (.int 1))) (aCons (eC (.str [110, 101, 120, 116])) (aCons (eTup (aCons (eC (.int 1)) aNil)) (aCons (eC (.int 1)) aNil)))))) (aCons (eVar 2) aNil))) (aCons (eTup (aCons (eTup (aCons (eC (.str [97, 115, 107])) (aCons (eC (.bl true)) (aCons (eC (.str [110, 101, 120, 116])) (aCons (eTup (aCons (eC (.int 1)) aNil)) (aCons (eC (.int 1)) aNil)))))) (aCons (eVar 2) aNil))) (aCons (eTup (aCons (eTup (aCons (eC (.str [97, 115, 107])) (aCons (eC (.int 0)) (aCons (eC (.str [110, 101, 120, 116])) (aCons (eTup (aCons (eC (.bl true)) aNil)) (aCons (eC (.int 1)) aNil)))))) (aCons (eVar 2) aNil))) aNil))))))
  (sSeq (sVar 5 (eBin dAdd (eVar 5) (eLst (aCons (eTup (aCons (eTup (aCons (eC (.str [97, 115, 107])) (aCons (eC (.int 0)) (aCons (eC (.str [110, 101, 120, 116])) (aCons (eTup (aCons (eC (.int 1)) aNil)) (aCons (eC (.bl true)) aNil)))))) (aCons (eVar 2) aNil))) (aCons (eTup (aCons (eTup (aCons (eC (.str [97, 115, 107])) (aCons (eC (.int 0)) (aCons (eC (.str [110, 101, 120, 116])) (aCons (eTup (aCons (eC (.int 1)) aNil)) aNil))))) (aCons (eVar 2) aNil))) (aCons (eTup (aCons (eTup (aCons (eC (.str [97, 115, 107])) (aCons (eC (.int 0)) (aCons (eC (.str [110, 101, 120, 116])) (aCons (eC (.int 1)) (aCons (eC (.int 1)) aNil)))))) (aCons (eVar 2) aNil))) aNil))))))
  (sSeq (sVar 5 (eBin dAdd (eVar 5) (eLst (aCons (eTup (aCons (eTup (aCons (eC (.str [111, 114, 100, 101, 114])) (aCons (eC (.int 0)) (aCons (eC (.int 0)) (aCons (eC (.int 1)) (aCons (eC (.int 1)) (aCons (eC (.int 1)) aNil))))))) (aCons (eVar 2) aNil))) (aCons (eTup (aCons (eTup (aCons (eC (.str [111, 114, 100, 101, 114])) (aCons (eC (.int 0)) (aCons (eC (.int 2)) (aCons (eC (.int 1)) (aCons (eC (.int 1)) (aCons (eC (.int 1)) aNil))))))) (aCons (eVar 2) aNil))) (aCons (eTup (aCons (eTup (aCons (eC (.str [111, 114, 100, 101, 114])) (aCons (eC (.int 0)) (aCons (eC (.int 1)) (aCons (eC (.int 1)) (aCons (eC (.int 1)) aNil)))))) (aCons (eVar 2) aNil))) (aCons (eTup (aCons (eTup (aCons (eC (.str [111, 114, 100, 101, 114])) (aCons (eC (.int 0)) (aCons (eC (.int 1)) (aCons (eC (.int 1)) (aCons (eC (.int 1)) (aCons (eC (.int 1)) (aCons (eC (.int 1)) aNil)))))))) (aCons (eVar 2) aNil))) aNil)))))))
  (sSeq (sVar 5 (eBin dAdd (eVar 5) (eLst (aCons (eTup (aCons (eTup (aCons (eC (.str [111, 114, 100, 101, 114])) (aCons (eC (.int 0)) (aCons (eC (.int 1)) (aCons (eC (.int 1)) (aCons (eC (.int 1)) (aCons (eC (.int 2)) aNil))))))) (aCons (eVar 2) aNil))) (aCons (eTup (aCons (eTup (aCons (eC (.str [111, 114, 100, 101, 114])) (aCons (eNeg (eC (.int 1))) (aCons (eC (.int 1)) (aCons (eC (.int 1)) (aCons (eC (.int 1)) (aCons (eC (.int 1)) aNil))))))) (aCons (eVar 2) aNil))) (aCons (eTup (aCons (eTup (aCons (eC (.str [111, 114, 100, 101, 114])) (aCons (eC (.int 0)) (aCons (eC (.int 1)) (aCons (eC (.int 0)) (aCons (eC (.int 1)) (aCons (eC (.int 1)) aNil))))))) (aCons (eVar 2) aNil))) aNil))))))
  (sSeq (sMut 5 fApp (aCons (eTup (aCons (eTup (aCons (eC (.str [111, 114, 100, 101, 114])) (aCons (eC (.int 0)) (aCons (eC (.int 1)) (aCons (eC (.int 1)) (aCons (eC (.int 2)) (aCons (eC (.int 2)) aNil))))))) (aCons (eTup (aCons (eC (.str [97, 115, 107])) (aCons (eC (.int 0)) (aCons (eC (.str [110, 101, 120, 116])) (aCons (eTup (aCons (eC (.int 1)) aNil)) (aCons (eC (.int 2)) aNil)))))) (aCons (eTup (aCons (eC (.str [111, 114, 100, 101, 114])) (aCons (eC (.int 0)) (aCons (eC (.int 1)) (aCons (eC (.int 3)) (aCons (eC (.int 3)) (aCons (eC (.int 3)) aNil))))))) (aCons (eVar 2) aNil))))) aNil))
  (sSeq (sMut 5 fApp (aCons (eTup (aCons (eTup (aCons (eC (.str [97, 115, 107])) (aCons (eC (.int 0)) (aCons (eC (.str [110, 101, 120, 116])) (aCons (eTup (aCons (eC (.int 1)) aNil)) (aCons (eC (.int 2)) aNil)))))) (aCons (eVar 2) (aCons (eVar 3) aNil)))) aNil))
  (sSeq (sSet 6 (eLst (aCons (eComp [8] (gN 8) (iSeqX false (eVar 4)) tYesX (eCall f_is_tree (aCons (eC (.int 2)) (aCons (eVar 8) aNil)))) (aCons (eComp [8] (gN 8) (iSeqX false (eVar 5)) tYesX (eCall f_is_tree (aCons (eC (.int 2)) (aCons (eVar 8) aNil)))) (aCons (eCallK 2 2 [1, 0] f_is_tree (aCons (eVar 0) (aCons (eC (.int 2)) aNil))) aNil)))))
  (sSeq (sSet 6 (eBin dAdd (eVar 6) (eLst (aCons (eCall f_is_tree (aCons (eC (.int 1)) (aCons (eVar 0) aNil))) (aCons (eCall f_is_tree (aCons (eC (.int 3)) (aCons (eVar 0) aNil))) aNil)))))
  (sSeq (sVar 7 (eLst (aCons (eBin dMul (eLst (aCons (eC (.bl true)) aNil)) (eC (.int 7))) (aCons (eBin dMul (eLst (aCons (eC (.bl false)) aNil)) (eC (.int 35))) (aCons (eC (.bl true)) (aCons (eC (.bl false)) (aCons (eC (.bl true)) aNil)))))))
  (sSeq (sSet 6 (eBin dAdd (eVar 6) (eLst (aCons (eCall f_asks_ahead (aCons (eBin dIxA (eVar 4) (eC (.int 6))) aNil)) (aCons (eCall f_depth (aCons (eBin dIxA (eVar 4) (eC (.int 6))) aNil)) (aCons (eComp [8] (gN 8) (iSeqX false (eVar 4)) tYesX (eCall f_manners (aCons (eVar 8) aNil))) aNil))))))
  (sSeq (sSet 6 (eBin dAdd (eVar 6) (eLst (aCons (eCallK 1 1 [0] f_asks_ahead (aCons (eCall (f__law_lists 12) (aCons (eVar 0) aNil)) aNil)) (aCons (eCallK 1 1 [0] f_depth (aCons (eVar 0) aNil)) aNil)))))
  (sSeq (sVar 7 (eBin dAdd (eVar 7) (eLst (aCons (eTup (aCons (eC (.int 0)) (aCons (eC (.int 0)) (aCons (eC (.int 1)) aNil)))) (aCons (eC (.int 1)) (aCons (eLst (aCons (eTup aNil) (aCons (eTup (aCons (eC (.str [98, 97, 99, 107, 119, 97, 114, 100])) aNil)) (aCons (eTup (aCons (eC (.str [98, 97, 99, 107, 119, 97, 114, 100])) (aCons (eC (.str [111, 110, 119, 97, 114, 100])) aNil))) (aCons (eTup (aCons (eC (.str [98, 97, 99, 107, 119, 97, 114, 100])) (aCons (eC (.str [111, 110, 119, 97, 114, 100])) aNil))) aNil))))) (aCons (eTup (aCons (eC (.int 0)) (aCons (eC (.int 1)) (aCons (eC (.int 2)) (aCons (eC (.int 2)) (aCons (eC (.int 2)) aNil)))))) (aCons (eC (.int 2)) aNil))))))))
  (sSeq (sPut 7 (eC (.int 7)) (eBin dAdd (eBin dIxA (eVar 7) (eC (.int 7))) (eLst (aCons (eTup (aCons (eC (.str [98, 97, 99, 107, 119, 97, 114, 100])) (aCons (eC (.str [111, 110, 119, 97, 114, 100])) aNil))) (aCons (eTup (aCons (eC (.str [98, 97, 99, 107, 119, 97, 114, 100])) (aCons (eC (.str [111, 110, 119, 97, 114, 100])) aNil))) (aCons (eTup (aCons (eC (.str [111, 110, 119, 97, 114, 100])) aNil)) aNil))))))
  (sFz 7 (sRet (eCall (f__law_same 12) (aCons (eVar 6) (aCons (eVar 7) aNil)))))))))))))))))))))))))
def f_answer : Fn := runF 2 (sRet (eBin dIxA (eCall f_run (aCons (eVar 0) (aCons (eVar 1) aNil))) (eC (.int 1))))
def f_way_of : Fn := runF 2 (sRet (eBin dIxA (eCall f_gone (aCons (eVar 0) (aCons (eVar 1) aNil))) (eC (.int 0))))
def f__law_runs_right : Fn := runF 7 (sSeq (sAsg (gT 2 (gsCons (gN 0) (gsCons (gN 1) gsNil))) (eTup (aCons (fun _ ph => f__law_early [] ph) (aCons (fun _ ph => f__law_some [] ph) aNil))))
  (sSeq (sSet 2 (eLst (aCons (eTup aNil) (aCons (eTup (aCons (eC (.int 1)) aNil)) (aCons (eTup (aCons (eC (.int 2)) aNil)) (aCons (eTup (aCons (eC (.int 1)) (aCons (eC (.int 2)) aNil))) (aCons (eTup (aCons (eC (.int 2)) (aCons (eC (.int 1)) (aCons (eC (.int 2)) aNil)))) (aCons (eTup (aCons (eC (.int 1)) (aCons (eC (.int 1)) aNil))) (aCons (eTup (aCons (eC (.int 2)) (aCons (eC (.int 2)) (aCons (eC (.int 1)) aNil)))) aNil)))))))))
  (sSeq (sSet 3 (eLst (aCons (eComp [6] (gN 6) (iSeqX false (eVar 2)) tYesX (eCall f_run (aCons (eVar 0) (aCons (eVar 6) aNil)))) (aCons (eComp [6] (gN 6) (iSeqX false (eVar 2)) tYesX (eCall f_answer (aCons (eVar 1) (aCons (eVar 6) aNil)))) (aCons (eComp [6] (gN 6) (iSeqX false (eVar 2)) tYesX (eCall f_way_of (aCons (eVar 0) (aCons (eVar 6) aNil)))) aNil)))))
  (sSeq (sVar 4 (eLst (aCons (eLst (aCons (eTup (aCons (eTup (aCons (eC (.int 0)) (aCons (eC (.int 1)) (aCons (eC (.int 1)) (aCons (eC (.int 0)) aNil))))) (aCons (eC (.bl false)) aNil))) (aCons (eTup (aCons (eTup (aCons (eC (.int 0)) (aCons (eC (.int 2)) (aCons (eC (.int 2)) (aCons (eC (.int 1)) aNil))))) (aCons (eC (.bl true)) aNil))) (aCons (eTup (aCons (eTup (aCons (eC (.int 0)) (aCons (eC (.int 2)) (aCons (eC (.int 1)) (aCons (eC (.int 0)) aNil))))) (aCons (eC (.bl false)) aNil))) (aCons (eTup (aCons (eTup (aCons (eC (.int 0)) (aCons (eC (.int 3)) (aCons (eC (.int 2)) (aCons (eC (.int 1)) aNil))))) (aCons (eC (.bl true)) aNil))) (aCons (eTup (aCons (eTup (aCons (eC (.int 0)) (aCons (eC (.int 4)) (aCons (eC (.int 1)) (aCons (eC (.int 0)) aNil))))) (aCons (eC (.bl false)) aNil))) aNil)))))) aNil)))
  (sSeq (sPut 4 (eC (.int 0)) (eBin dAdd (eBin dIxA (eVar 4) (eC (.int 0))) (eLst (aCons (eTup (aCons (eTup (aCons (eC (.int 0)) (aCons (eC (.int 3)) (aCons (eC (.int 3)) (aCons (eC (.int 2)) aNil))))) (aCons (eC (.bl true)) aNil))) (aCons (eTup (aCons (eTup (aCons (eC (.int 0)) (aCons (eC (.int 4)) (aCons (eC (.int 1)) (aCons (eC (.int 0)) aNil))))) (aCons (eC (.bl false)) aNil))) aNil)))))
  (sSeq (sVar 4 (eBin dAdd (eVar 4) (eLst (aCons (eLst (aCons (eC (.bl false)) (aCons (eC (.bl false)) (aCons (eC (.bl true)) (aCons (eC (.bl true)) (aCons (eC (.bl true)) (aCons (eC (.bl false)) (aCons (eC (.bl true)) aNil)))))))) (aCons (eLst (aCons (eTup (aCons (eC (.int 0)) (aCons (eC (.int 1)) (aCons (eC (.int 2)) (aCons (eC (.int 3)) aNil))))) (aCons (eTup (aCons (eC (.int 0)) (aCons (eC (.int 1)) (aCons (eC (.int 2)) (aCons (eC (.int 4)) aNil))))) (aCons (eTup (aCons (eC (.int 0)) (aCons (eC (.int 1)) (aCons (eC (.int 2)) (aCons (eC (.int 3)) aNil))))) (aCons (eTup (aCons (eC (.int 0)) (aCons (eC (.int 1)) (aCons (eC (.int 2)) (aCons (eC (.int 4)) aNil))))) aNil))))) aNil)))))
  (sSeq (sPut 4 (eC (.int 2)) (eBin dAdd (eBin dIxA (eVar 4) (eC (.int 2))) (eLst (aCons (eTup (aCons (eC (.int 0)) (aCons (eC (.int 1)) (aCons (eC (.int 2)) (aCons (eC (.int 3)) aNil))))) (aCons (eTup (aCons (eC (.int 0)) (aCons (eC (.int 1)) (aCons (eC (.int 2)) (aCons (eC (.int 4)) aNil))))) (aCons (eTup (aCons (eC (.int 0)) (aCons (eC (.int 1)) (aCons (eC (.int 2)) (aCons (eC (.int 3)) aNil))))) aNil))))))
  (sSeq (sSet 3 (eBin dAdd (eVar 3) (eLst (aCons (eCallK 2 2 [1, 0] f_run (aCons (eLst (aCons (eC (.int 1)) (aCons (eC (.int 2)) aNil))) (aCons (eCall (f__law_lists 12) (aCons (eVar 0) aNil)) aNil))) (aCons (eCallK 2 2 [1, 0] f_answer (aCons (eLst (aCons (eC (.int 2)) aNil)) (aCons (eVar 1) aNil))) (aCons (eCallK 2 2 [1, 0] f_way_of (aCons (eTup (aCons (eC (.int 2)) aNil)) (aCons (eCall (f__law_lists 12) (aCons (eVar 1) aNil)) aNil))) aNil))))))
  (sSeq (sVar 4 (eBin dAdd (eVar 4) (eLst (aCons (eTup (aCons (eTup (aCons (eC (.int 0)) (aCons (eC (.int 3)) (aCons (eC (.int 2)) (aCons (eC (.int 1)) aNil))))) (aCons (eC (.bl true)) aNil))) (aCons (eC (.bl true)) (aCons (eTup (aCons (eC (.int 0)) (aCons (eC (.int 1)) (aCons (eC (.int 2)) aNil)))) aNil))))))
  (sSeq (sSet 5 (eTup (aCons (eTup (aCons (eC (.str [97, 115, 107])) (aCons (eC (.int 1)) (aCons (eC (.str [110, 101, 120, 116])) (aCons (eTup (aCons (eC (.int 1)) (aCons (eC (.int 2)) aNil))) (aCons (eC (.int 1)) aNil)))))) (aCons (eTup (aCons (eC (.str [97, 115, 107])) (aCons (eC (.int 0)) (aCons (eC (.str [108, 97, 115, 116])) (aCons (eTup (aCons (eC (.int 2)) aNil)) (aCons (eC (.int 2)) aNil)))))) (aCons (eTup (aCons (eC (.str [97, 115, 107])) (aCons (eC (.int 0)) (aCons (eC (.str [110, 101, 120, 116])) (aCons (eTup (aCons (eC (.int 1)) (aCons (eC (.int 2)) aNil))) (aCons (eC (.int 3)) aNil)))))) (aCons (eTup (aCons (eC (.str [97, 115, 107])) (aCons (eC (.int 4)) (aCons (eC (.str [110, 101, 120, 116])) (aCons (eTup (aCons (eC (.int 1)) (aCons (eC (.int 2)) aNil))) (aCons (eC (.int 4)) aNil)))))) (aCons (eTup (aCons (eC (.str [115, 97, 121])) (aCons (eC (.bl false)) aNil))) aNil)))))))
  (sSeq (sSet 3 (eBin dAdd (eVar 3) (eComp [6] (gN 6) (iSeqX false (eTup (aCons (eTup aNil) (aCons (eTup (aCons (eC (.int 2)) (aCons (eC (.int 1)) aNil))) (aCons (eTup (aCons (eC (.int 1)) aNil)) aNil))))) tYesX (eCall f_run (aCons (eVar 5) (aCons (eVar 6) aNil))))))
  (sRet (eCall (f__law_same 12) (aCons (eVar 3) (aCons (eBin dAdd (eVar 4) (eLst (aCons (eTup (aCons (eTup (aCons (eC (.int 0)) (aCons (eC (.int 1)) (aCons (eC (.int 1)) (aCons (eC (.int 0)) (aCons (eC (.int 1)) (aCons (eC (.int 1)) aNil))))))) (aCons (eC (.bl false)) aNil))) (aCons (eTup (aCons (eTup (aCons (eC (.int 0)) (aCons (eC (.int 3)) (aCons (eC (.int 3)) (aCons (eC (.int 0)) (aCons (eC (.int 1)) (aCons (eC (.int 2)) aNil))))))) (aCons (eC (.bl false)) aNil))) (aCons (eTup (aCons (eTup (aCons (eC (.int 0)) (aCons (eC (.int 2)) (aCons (eC (.int 2)) (aCons (eC (.int 0)) (aCons (eC (.int 1)) (aCons (eC (.int 2)) aNil))))))) (aCons (eC (.bl false)) aNil))) aNil))))) aNil)))))))))))))))
def f_far_name : Fn := runF 4 (sRet (eIf (tB (eBin dEq (eBin dIxA (eBin dIxA (eVar 0) (eVar 1)) (eC (.int 0))) (eC (.str [115, 97, 121])))) (eTup (aCons (eC (.str [115, 97, 121])) (aCons (eBin dNe (eBin dIxA (eBin dIxA (eVar 0) (eVar 1)) (eC (.int 1))) (eVar 3)) aNil))) (eTup (aCons (eC (.int 1)) (aCons (eVar 1) (aCons (eVar 2) (aCons (eVar 3) aNil)))))))
def f_near_name : Fn := runF 6 (sSeq (sIf (tB (eBin dNe (eBin dIxA (eBin dIxA (eVar 0) (eVar 2)) (eC (.int 0))) (eC (.str [115, 97, 121]))))
    (sRet (eTup (aCons (eC (.int 0)) (aCons (eVar 2) aNil))))
    sNx)
  (sSeq (sSet 5 (eBin dIxA (eBin dIxA (eVar 0) (eVar 2)) (eC (.int 1))))
  (sSeq (sIf (tB (eBin dEq (eVar 5) (eKDic [([98, 111, 116, 104], (.bl false)), ([101, 105, 116, 104, 101, 114], (.bl true)), ([117, 110, 108, 105, 107, 101], .non)] (eVar 4))))
    (sRet (eTup (aCons (eC (.str [115, 97, 121])) (aCons (eVar 5) aNil))))
    sNx)
  (sRet (eCall f_far_name (aCons (eVar 1) (aCons (eC (.int 0)) (aCons (eVar 3) (aCons (eAnd (eBin dEq (eVar 4) (eC (.str [117, 110, 108, 105, 107, 101]))) (eVar 5)) aNil)))))))))
def f_moved : Fn := runF 5 (sSeq (sSet 2 (eBin dIxA (eDisp (ppCons (eC (.str [115, 97, 121])) (eTup aNil) (ppCons (eC (.str [97, 115, 107])) (eTup (aCons (eC (.int 1)) aNil)) (ppCons (eC (.str [111, 114, 100, 101, 114])) (eTup (aCons (eC (.int 1)) (aCons (eC (.int 2)) aNil))) ppNil)))) (eBin dIxA (eVar 0) (eC (.int 0)))))
  (sRet (eB bTup (aCons (eComp [3, 4] (gT 2 (gsCons (gN 3) (gsCons (gN 4) gsNil))) (iEnumX false (aCons (eVar 0) aNil)) tYesX (eIf (tAnd (tB (eBin dInA (eVar 3) (eVar 2))) (tB (eBin dGt (eVar 4) (eC (.int 1))))) (eBin dAdd (eVar 4) (eVar 1)) (eVar 4))) aNil))))
def f_tree_joined : Fn := runF 14 (sSeq (sParN [3, 4, 5] [(eCall (f_tuple_of 12) (aCons (eVar 0) aNil)), (eCall (f_tuple_of 12) (aCons (eVar 1) aNil)), eDNew])
  (sSeq (sSet 6 (eCall f_near_name (aCons (eVar 3) (aCons (eVar 4) (aCons (eC (.int 0)) (aCons (eC (.int 0)) (aCons (eVar 2) aNil)))))))
  (sSeq (sVar 7 (eLst (aCons (eVar 6) aNil)))
  (sSeq (sWhile (tB (eBin dNe (eVar 7) (eLst aNil)))
    (sSeq (sPopG 7 (gN 8))
    (sSeq (sIf (tB (eBin dInA (eVar 8) (eVar 5)))
      sCt
      sNx)
    (sSeq (sIf (tB (eBin dEq (eBin dIxA (eVar 8) (eC (.int 0))) (eC (.str [115, 97, 121]))))
      (sSeq (sPutD 5 (eVar 8) (eTup (aCons (eC (.int 0)) (aCons (eVar 8) aNil))))
      sCt)
      sNx)
    (sSeq (sIf (tB (eBin dEq (eBin dIxA (eVar 8) (eC (.int 0))) (eC (.int 0))))
      (sSeq (sPar [9, 10] (aCons (eBin dIxA (eCall f_asks_ahead (aCons (eVar 3) aNil)) (eBin dIxA (eVar 8) (eC (.int 1)))) (aCons (eBin dIxA (eVar 3) (eBin dIxA (eVar 8) (eC (.int 1)))) aNil)))
      (sSeq (sSet 11 (eBin dAdd (eVar 9) (eB bInt (aCons (eBin dEq (eBin dIxA (eVar 10) (eC (.int 0))) (eC (.str [97, 115, 107]))) aNil))))
      (sSet 12 (eComp [13] (gN 13) (iSeqX false (eCall f_next_knots (aCons (eVar 10) aNil))) tYesX (eCall f_near_name (aCons (eVar 3) (aCons (eVar 4) (aCons (eVar 13) (aCons (eVar 11) (aCons (eVar 2) aNil))))))))))
      (sSeq (sPar [9, 10] (aCons (eBin dAdd (eBin dIxA (eVar 8) (eC (.int 2))) (eBin dIxA (eCall f_asks_ahead (aCons (eVar 4) aNil)) (eBin dIxA (eVar 8) (eC (.int 1))))) (aCons (eCall f_moved (aCons (eBin dIxA (eVar 4) (eBin dIxA (eVar 8) (eC (.int 1)))) (aCons (eBin dIxA (eVar 8) (eC (.int 2))) aNil))) aNil)))
      (sSet 12 (eComp [13] (gN 13) (iSeqX false (eCall f_next_knots (aCons (eVar 10) aNil))) tYesX (eCall f_far_name (aCons (eVar 4) (aCons (eVar 13) (aCons (eBin dIxA (eVar 8) (eC (.int 2))) (aCons (eBin dIxA (eVar 8) (eC (.int 3))) aNil)))))))))
    (sSeq (sPutD 5 (eVar 8) (eTup (aCons (eVar 9) (aCons (eCall f_with_next (aCons (eVar 10) (aCons (eVar 12) aNil))) aNil))))
    (sMut 7 fExt (aCons (eVar 12) aNil))))))) 100000)
  (sFz 5 (sRet (eCall f_numbered (aCons (eVar 5) (aCons (eVar 6) aNil)))))))))
def f_tree_contrary : Fn := runF 2 (sRet (eB bTup (aCons (eComp [1] (gN 1) (iSeqX false (eCall (f_tuple_of 12) (aCons (eVar 0) aNil))) tYesX (eIf (tB (eBin dEq (eBin dIxA (eVar 1) (eC (.int 0))) (eC (.str [115, 97, 121])))) (eTup (aCons (eC (.str [115, 97, 121])) (aCons (eNot (eBin dIxA (eVar 1) (eC (.int 1)))) aNil))) (eVar 1))) aNil)))
def f__law_made_right : Fn := runF 8 (sSeq (sAsg (gT 4 (gsCons (gN 0) (gsCons (gN 1) (gsCons (gN 2) (gsCons (gN 3) gsNil))))) (eTup (aCons (fun _ ph => f__law_early [] ph) (aCons (fun _ ph => f__law_some [] ph) (aCons (eTup (aCons (eC (.str [115, 97, 121])) (aCons (eC (.bl true)) aNil))) (aCons (eTup (aCons (eC (.str [115, 97, 121])) (aCons (eC (.bl false)) aNil))) aNil))))))
  (sSeq (sSet 4 (eLst (aCons (eCall f_shared (aCons (eVar 0) aNil)) (aCons (eCall f_shared (aCons (eVar 1) aNil)) (aCons (eCall f_shared (aCons (eTup (aCons (eTup (aCons (eC (.str [111, 114, 100, 101, 114])) (aCons (eC (.int 0)) (aCons (eC (.int 1)) (aCons (eC (.int 1)) (aCons (eC (.int 2)) (aCons (eC (.int 2)) aNil))))))) (aCons (eVar 2) (aCons (eVar 2) aNil)))) aNil)) (aCons (eCall f_shared (aCons (eTup (aCons (eVar 3) aNil)) aNil)) (aCons (eCallK 1 1 [0] f_shared (aCons (eCall (f__law_lists 12) (aCons (eVar 1) aNil)) aNil)) aNil)))))))
  (sSeq (sVar 5 (eLst (aCons (eVar 0) (aCons (eVar 1) (aCons (eTup (aCons (eTup (aCons (eC (.str [111, 114, 100, 101, 114])) (aCons (eC (.int 0)) (aCons (eC (.int 1)) (aCons (eC (.int 1)) (aCons (eC (.int 1)) (aCons (eC (.int 1)) aNil))))))) (aCons (eVar 2) aNil))) (aCons (eTup (aCons (eVar 3) aNil)) (aCons (eVar 1) aNil)))))))
  (sSeq (sSet 4 (eBin dAdd (eVar 4) (eLst (aCons (eCall f_tree_contrary (aCons (eVar 1) aNil)) (aCons (eCall f_tree_mirrored (aCons (eVar 1) aNil)) (aCons (eCallK 1 1 [0] f_tree_contrary (aCons (eLst (aCons (eB bLst (aCons (eVar 2) aNil)) aNil)) aNil)) (aCons (eCallK 1 1 [0] f_tree_mirrored (aCons (eCall (f__law_lists 12) (aCons (eVar 0) aNil)) aNil)) aNil)))))))
  (sSeq (sVar 5 (eBin dAdd (eVar 5) (eLst (aCons (eBin dAdd (eCut (eVar 1) pNo (pAt (eC (.int 2)))) (eTup (aCons (eVar 3) (aCons (eVar 2) aNil)))) (aCons (eTup (aCons (eTup (aCons (eC (.str [97, 115, 107])) (aCons (eC (.int 0)) (aCons (eC (.str [110, 101, 120, 116])) (aCons (eTup (aCons (eC (.int 2)) aNil)) (aCons (eC (.int 1)) aNil)))))) (aCons (eTup (aCons (eC (.str [111, 114, 100, 101, 114])) (aCons (eC (.int 1)) (aCons (eC (.int 2)) (aCons (eC (.int 3)) (aCons (eC (.int 3)) (aCons (eC (.int 2)) aNil))))))) (aCons (eVar 2) (aCons (eVar 3) aNil))))) (aCons (eTup (aCons (eVar 3) aNil)) aNil))))))
  (sSeq (sMut 5 fApp (aCons (eTup (aCons (eTup (aCons (eC (.str [97, 115, 107])) (aCons (eC (.int 1)) (aCons (eC (.str [108, 97, 115, 116])) (aCons (eTup (aCons (eC (.int 2)) aNil)) (aCons (eC (.int 1)) aNil)))))) (aCons (eTup (aCons (eC (.str [97, 115, 107])) (aCons (eC (.int 2)) (aCons (eC (.str [110, 101, 120, 116])) (aCons (eTup (aCons (eC (.int 1)) aNil)) (aCons (eC (.int 2)) aNil)))))) (aCons (eTup (aCons (eC (.str [111, 114, 100, 101, 114])) (aCons (eC (.int 3)) (aCons (eC (.int 1)) (aCons (eC (.int 4)) (aCons (eC (.int 3)) (aCons (eC (.int 3)) aNil))))))) (aCons (eVar 3) (aCons (eVar 2) aNil)))))) aNil))
  (sSeq (sSet 4 (eBin dAdd (eVar 4) (eLst (aCons (eCall f_tree_joined (aCons (eTup (aCons (eVar 2) aNil)) (aCons (eVar 1) (aCons (eC (.str [98, 111, 116, 104])) aNil)))) (aCons (eCall f_tree_joined (aCons (eTup (aCons (eVar 2) aNil)) (aCons (eVar 1) (aCons (eC (.str [101, 105, 116, 104, 101, 114])) aNil)))) (aCons (eCall f_tree_joined (aCons (eTup (aCons (eVar 2) aNil)) (aCons (eVar 1) (aCons (eC (.str [117, 110, 108, 105, 107, 101])) aNil)))) aNil))))))
  (sSeq (sVar 5 (eBin dAdd (eVar 5) (eLst (aCons (eVar 1) (aCons (eTup (aCons (eVar 2) aNil)) (aCons (eBin dAdd (eCut (eVar 1) pNo (pAt (eC (.int 2)))) (eTup (aCons (eVar 3) (aCons (eVar 2) aNil)))) aNil))))))
  (sSeq (sSet 4 (eBin dAdd (eVar 4) (eLst (aCons (eCall f_tree_joined (aCons (eTup (aCons (eVar 3) aNil)) (aCons (eVar 1) (aCons (eC (.str [98, 111, 116, 104])) aNil)))) (aCons (eCall f_tree_joined (aCons (eTup (aCons (eVar 3) aNil)) (aCons (eVar 1) (aCons (eC (.str [101, 105, 116, 104, 101, 114])) aNil)))) aNil)))))
  (sSeq (sSet 4 (eBin dAdd (eVar 4) (eLst (aCons (eCall f_tree_joined (aCons (eVar 1) (aCons (eTup (aCons (eVar 3) aNil)) (aCons (eC (.str [117, 110, 108, 105, 107, 101])) aNil)))) (aCons (eCall f_tree_joined (aCons (eVar 1) (aCons (eTup (aCons (eVar 3) aNil)) (aCons (eC (.str [98, 111, 116, 104])) aNil)))) aNil)))))
  (sSeq (sVar 5 (eBin dAdd (eVar 5) (eLst (aCons (eTup (aCons (eVar 3) aNil)) (aCons (eVar 1) (aCons (eVar 1) (aCons (eTup (aCons (eBin dIxA (eVar 1) (eC (.int 0))) (aCons (eTup (aCons (eC (.str [111, 114, 100, 101, 114])) (aCons (eC (.int 0)) (aCons (eC (.int 2)) (aCons (eC (.int 2)) (aCons (eC (.int 2)) (aCons (eC (.int 2)) aNil))))))) (aCons (eVar 3) aNil)))) aNil)))))))
  (sSeq (sSet 6 (eCallK 3 3 [2, 1, 0] f_tree_joined (aCons (eC (.str [98, 111, 116, 104])) (aCons (eCall (f__law_lists 12) (aCons (eVar 1) aNil)) (aCons (eCall (f__law_lists 12) (aCons (eVar 0) aNil)) aNil)))))
  (sSeq (sSet 4 (eBin dAdd (eVar 4) (eLst (aCons (eCut (eVar 6) (pAt (eC (.int 3))) pNo) (aCons (eComp [7] (gN 7) (iSeqX false (eTup (aCons (eTup (aCons (eC (.int 1)) (aCons (eC (.int 2)) aNil))) (aCons (eTup (aCons (eC (.int 1)) (aCons (eC (.int 1)) aNil))) (aCons (eTup (aCons (eC (.int 2)) aNil)) aNil))))) tYesX (eCall f_run (aCons (eVar 6) (aCons (eVar 7) aNil)))) aNil)))))
  (sSeq (sVar 5 (eBin dAdd (eVar 5) (eLst (aCons (eTup (aCons (eTup (aCons (eC (.str [97, 115, 107])) (aCons (eC (.int 1)) (aCons (eC (.str [108, 97, 115, 116])) (aCons (eTup (aCons (eC (.int 2)) aNil)) (aCons (eC (.int 4)) aNil)))))) (aCons (eTup (aCons (eC (.str [111, 114, 100, 101, 114])) (aCons (eC (.int 0)) (aCons (eC (.int 4)) (aCons (eC (.int 6)) (aCons (eC (.int 5)) (aCons (eC (.int 5)) aNil))))))) (aCons (eVar 3) (aCons (eVar 2) aNil))))) (aCons (eLst (aCons (eTup (aCons (eTup (aCons (eC (.int 0)) (aCons (eC (.int 3)) (aCons (eC (.int 2)) (aCons (eC (.int 1)) (aCons (eC (.int 2)) aNil)))))) (aCons (eC (.bl true)) aNil))) (aCons (eTup (aCons (eTup (aCons (eC (.int 0)) (aCons (eC (.int 3)) (aCons (eC (.int 3)) (aCons (eC (.int 2)) (aCons (eC (.int 0)) aNil)))))) (aCons (eC (.bl false)) aNil))) (aCons (eTup (aCons (eTup (aCons (eC (.int 0)) (aCons (eC (.int 2)) (aCons (eC (.int 1)) (aCons (eC (.int 0)) aNil))))) (aCons (eC (.bl false)) aNil))) aNil)))) aNil)))))
  (sFz 5 (sRet (eCall (f__law_same 12) (aCons (eVar 4) (aCons (eVar 5) aNil)))))))))))))))))))
def f__law_cells : Fn := runF 6 (sSeq (sVar 2 (eOrT (eB bLst (aCons (eCut (eVar 0) pNo (pAt (eVar 1))) aNil)) (eLst (aCons (eC (.int 0)) aNil))))
  (sSeq (sFor (gT 2 (gsCons (gN 3) (gsCons (gN 4) gsNil))) (iEnumX true (aCons (eCut (eVar 0) (pAt (eVar 1)) (pAt (eC (.int 63)))) aNil))
    (sSeq (sSet 5 (eBin dMod (eB bInt (aCons (eVar 3) aNil)) (eVar 1)))
    (sPut 2 (eVar 5) (eBin dAdd (eBin dIxA (eVar 2) (eVar 5)) (eBin dMul (eVar 4) (eBin dAdd (eVar 3) (eC (.int 2))))))))
  (sFz 2 (sRet (eVar 2)))))
def f_law : Fn := runF 1 (sSeq (sIf (tNot (tB (fun _ ph => f__law_always_right [] ph)))
    (sRet (eC (.bl false)))
    sNx)
  (sRet (eOne [f__law_things_right, f__law_runs_right, f__law_made_right] (eBin dMod (eB bInt (aCons (eBin dIxA (eCall f__law_cells (aCons (eVar 0) (aCons (eC (.int 1)) aNil))) (eC (.int 0))) aNil)) (eC (.int 3))))))
end Pyp

namespace Pyp
open PySem L2
def isTr (r : Res Val) : Bool := match r with
  | .ok (.d (.bl true)) [] => true
  | _ => false
theorem isTr_of {r : Res Val} (h : isTr r = true) : r = .ok (.d (.bl true)) [] := by
  unfold isTr at h
  split at h
  · rfl
  · cases h
theorem always_ok : f__law_always_right [] [] = .ok (.d (.bl true)) [] := isTr_of (by decide +kernel)
end Pyp
namespace Pyp
open PySem L2
theorem runs_ok : f__law_runs_right [] [] = .ok (.d (.bl true)) [] := isTr_of (by decide +kernel)
end Pyp
namespace Pyp
open PySem L2
theorem things_ok : f__law_things_right [] [] = .ok (.d (.bl true)) [] := isTr_of (by decide +kernel)
theorem made_ok : f__law_made_right [] [] = .ok (.d (.bl true)) [] := isTr_of (by decide +kernel)
theorem cutL_le {α : Type} (ns : List α) (lo hi : Option Int) : (cutL ns lo hi).length ≤ ns.length := by
  unfold cutL
  simp
  omega
theorem cut_to {α : Type} (ts : List α) (n : Nat) : cutL ts none (some (n : Int)) = ts.take n := by
  unfold cutL
  rw [HT.sIx_nat]
  show (ts.drop 0).take (min n ts.length - 0) = _
  rw [List.drop_zero, Nat.sub_zero]
  by_cases h : n ≤ ts.length
  · rw [Nat.min_eq_left h]
  · rw [Nat.min_eq_right (by omega), List.take_of_length_le (Nat.le_refl _), List.take_of_length_le (by omega)]
abbrev ID (ns : List Int) : List D := ns.map D.int
theorem ix0 (z : Int) : dIxA (.lst [.int z]) (.int 0) = some (.d (.int z)) := rfl
theorem cells_loop (ns : List Int) : ∀ (rest : List Int) (i : Nat) (z : Int) (o3 o4 o5 : Option Val) (ph : PH), i + rest.length ≤ 100 →
    ∃ z' g3 g4 g5, forL (gT 2 (gsCons (gN 3) (gsCons (gN 4) gsNil))) (sSeq (sSet 5 (eBin dMod (eB bInt (aCons (eVar 3) aNil)) (eVar 1))) (sPut 2 (eVar 5) (eBin dAdd (eBin dIxA (eVar 2) (eVar 5)) (eBin dMul (eVar 4) (eBin dAdd (eVar 3) (eC (.int 2))))))) (enumD i (ID rest))
      [some (.d (.fz ns)), some (.d (.int 1)), some (.own (.lst [.int z])), o3, o4, o5] ph = .nx [some (.d (.fz ns)), some (.d (.int 1)), some (.own (.lst [.int z'])), g3, g4, g5] ph
  | [], i, z, o3, o4, o5, ph, _ => ⟨z, o3, o4, o5, rfl⟩
  | x :: rest, i, z, o3, o4, o5, ph, hl => by
    have m : mulOk x ((i : Int) + 2) = true := mul_r (by omega) (by simp at hl; omega)
    have e0 : (i : Int) % 1 = 0 := Int.emod_one _
    obtain ⟨z', g3, g4, g5, e⟩ := cells_loop ns rest (i + 1) (z + x * ((i : Int) + 2)) (some (.d (.int i))) (some (.d (.int x))) (some (.d (.int 0))) ph (by simp at hl; omega)
    refine ⟨z', g3, g4, g5, ?_⟩
    show forL _ _ (.tup [.int i, .int x] :: enumD (i + 1) (ID rest)) _ ph = _
    rw [forL_cons]
    simp [e0, m, ixN, ix0]
    exact e
theorem cells_ok {ns : List Int} (hl : ns.length ≤ 63) (ph : PH) : ∃ z, f__law_cells [.d (.fz ns), .d (.int 1)] ph = .ok (.d (.lst [.int z])) ph := by
  have c0 : cutL ns none (some 1) = ns.take 1 := cut_to ns 1
  have hr := cutL_le ns (some 1) (some 63)
  cases ns with
  | nil =>
    obtain ⟨z', g3, g4, g5, e⟩ := cells_loop [] (cutL [] (some 1) (some 63)) 0 0 none none none ph (by decide)
    refine ⟨z', ?_⟩
    simp [f__law_cells, c0, orEnd, truD, lim]
    have e' : forL _ _ (enumD 0 (ID (cutL ([] : List Int) (some 1) (some 63)))) _ ph = _ := e
    simp [e']
  | cons a as =>
    obtain ⟨z', g3, g4, g5, e⟩ := cells_loop (a :: as) (cutL (a :: as) (some 1) (some 63)) 0 a none none none ph (by simp at hr hl ⊢; omega)
    refine ⟨z', ?_⟩
    simp [f__law_cells, c0, orEnd, truD, lim, e]
theorem law_gen (A B C E Cl : Fn) (ns : List Int) (z : Int) (hA : A [] [] = .ok (.d (.bl true)) []) (hcl : Cl [.d (.fz ns), .d (.int 1)] [] = .ok (.d (.lst [.int z])) []) (hB : B [] [] = .ok (.d (.bl true)) []) (hC : C [] [] = .ok (.d (.bl true)) []) (hE : E [] [] = .ok (.d (.bl true)) []) :
    runF 1 (sSeq (sIf (tNot (tB (fun _ ph => A [] ph)))
      (sRet (eC (.bl false)))
      sNx)
    (sRet (eOne [B, C, E] (eBin dMod (eB bInt (aCons (eBin dIxA (eCall Cl (aCons (eVar 0) (aCons (eC (.int 1)) aNil))) (eC (.int 0))) aNil)) (eC (.int 3)))))) [.d (.fz ns)] [] = .ok (.d (.bl true)) [] := by
  have h1 := Int.emod_nonneg z (show (3 : Int) ≠ 0 by decide)
  have h2 := Int.emod_lt_of_pos z (show (0 : Int) < 3 by decide)
  have h : z % 3 = 0 ∨ z % 3 = 1 ∨ z % 3 = 2 := by omega
  have m3 : dMod (.int z) (.int 3) = some (.d (.int (z % 3))) := rfl
  have a0 : atI [B, C, E] 0 = some B := rfl
  have a1 : atI [B, C, E] 1 = some C := rfl
  have a2 : atI [B, C, E] 2 = some E := rfl
  rcases h with h | h | h
  · simp [hA, hcl, ix0, m3, eOne, h, a0, hB]
  · simp [hA, hcl, ix0, m3, eOne, h, a1, hC]
  · simp [hA, hcl, ix0, m3, eOne, h, a2, hE]
theorem pure_law (ns : List Int) (hl : ns.length ≤ 63) : ∃ ph, f_law [.d (.fz ns)] [] = .ok (.d (.bl true)) ph := by
  obtain ⟨z, e2⟩ := cells_ok hl []
  exact ⟨[], law_gen _ _ _ _ _ ns z always_ok e2 things_ok runs_ok made_ok⟩
end Pyp

namespace Pyp
open PySem PySem.Spec PyProof.Rows L2
def top (i : Nat) : Stmt := PySem.Challenge.pw_turnedasks_k12_trees_by_hand_and_refused.main.body.getD i (.Pass ⟨0, 0, 0, 0⟩)
theorem sc__law_same : FnScope ["got", "goal", "mine", "own"] ["got", "goal"] (defScope (top 44)) := ⟨rfl, rfl, rfl, by decide +kernel, rfl, by decide +kernel, by decide +kernel⟩
theorem sc__law_early : FnScope [] [] (defScope (top 46)) := ⟨rfl, rfl, rfl, by decide +kernel, rfl, by decide +kernel, by decide +kernel⟩
theorem sc__law_some : FnScope [] [] (defScope (top 47)) := ⟨rfl, rfl, rfl, by decide +kernel, rfl, by decide +kernel, by decide +kernel⟩
theorem sc_tuple_of : FnScope ["thing", "part"] ["thing"] (defScope (top 2)) := ⟨rfl, rfl, rfl, by decide +kernel, rfl, by decide +kernel, by decide +kernel⟩
theorem sc_is_number : FnScope ["thing"] ["thing"] (defScope (top 1)) := ⟨rfl, rfl, rfl, by decide +kernel, rfl, by decide +kernel, by decide +kernel⟩
theorem sc_sure_place : FnScope ["text", "place"] ["text", "place"] (defScope (top 10)) := ⟨rfl, rfl, rfl, by decide +kernel, rfl, by decide +kernel, by decide +kernel⟩
theorem sc_next_place : FnScope ["text", "place", "letters", "own"] ["text", "place", "letters"] (defScope (top 11)) := ⟨rfl, rfl, rfl, by decide +kernel, rfl, by decide +kernel, by decide +kernel⟩
theorem sc_last_place : FnScope ["text", "place", "letters", "own"] ["text", "place", "letters"] (defScope (top 12)) := ⟨rfl, rfl, rfl, by decide +kernel, rfl, by decide +kernel, by decide +kernel⟩
theorem sc_found : FnScope ["text", "place", "side", "letters"] ["text", "place", "side", "letters"] (defScope (top 17)) := ⟨rfl, rfl, rfl, by decide +kernel, rfl, by decide +kernel, by decide +kernel⟩
theorem sc_gone : FnScope ["tree", "text", "own", "letters", "knots", "spots", "knot", "one", "other"] ["tree", "text"] (defScope (top 28)) := ⟨rfl, rfl, rfl, by decide +kernel, rfl, by decide +kernel, by decide +kernel⟩
theorem sc_run : FnScope ["tree", "text", "knots", "spots"] ["tree", "text"] (defScope (top 29)) := ⟨rfl, rfl, rfl, by decide +kernel, rfl, by decide +kernel, by decide +kernel⟩
theorem sc_next_knots : FnScope ["knot"] ["knot"] (defScope (top 20)) := ⟨rfl, rfl, rfl, by decide +kernel, rfl, by decide +kernel, by decide +kernel⟩
theorem sc_asks_ahead : FnScope ["tree", "own", "ahead", "number", "knot", "later"] ["tree"] (defScope (top 25)) := ⟨rfl, rfl, rfl, by decide +kernel, rfl, by decide +kernel, by decide +kernel⟩
theorem sc_depth : FnScope ["tree"] ["tree"] (defScope (top 26)) := ⟨rfl, rfl, rfl, by decide +kernel, rfl, by decide +kernel, by decide +kernel⟩
theorem sc_with_next : FnScope ["knot", "numbers"] ["knot", "numbers"] (defScope (top 21)) := ⟨rfl, rfl, rfl, by decide +kernel, rfl, by decide +kernel, by decide +kernel⟩
theorem sc_merged : FnScope ["knots", "top", "same", "names", "order", "left", "name", "done", "ahead", "knot", "key", "own", "number"] ["knots", "top"] (defScope (top 32)) := ⟨rfl, rfl, rfl, by decide +kernel, rfl, by decide +kernel, by decide +kernel⟩
theorem sc_numbered : FnScope ["knots", "top", "own", "first", "levels", "name", "later", "rows", "numbers", "level"] ["knots", "top"] (defScope (top 33)) := ⟨rfl, rfl, rfl, by decide +kernel, rfl, by decide +kernel, by decide +kernel⟩
theorem sc_shared : FnScope ["tree", "own"] ["tree"] (defScope (top 34)) := ⟨rfl, rfl, rfl, by decide +kernel, rfl, by decide +kernel, by decide +kernel⟩
theorem sc_mirrored_knot : FnScope ["knot", "spot", "spots", "own"] ["knot"] (defScope (top 40)) := ⟨rfl, rfl, rfl, by decide +kernel, rfl, by decide +kernel, by decide +kernel⟩
theorem sc_tree_mirrored : FnScope ["tree", "knot"] ["tree"] (defScope (top 41)) := ⟨rfl, rfl, rfl, by decide +kernel, rfl, by decide +kernel, by decide +kernel⟩
theorem sc__law_always_right : FnScope ["early", "some", "got", "due"] [] (defScope (top 51)) := ⟨rfl, rfl, rfl, by decide +kernel, rfl, by decide +kernel, by decide +kernel⟩
theorem sc_is_side : FnScope ["thing"] ["thing"] (defScope (top 15)) := ⟨rfl, rfl, rfl, by decide +kernel, rfl, by decide +kernel, by decide +kernel⟩
theorem sc_is_letter : FnScope ["wide", "thing"] ["wide", "thing"] (defScope (top 7)) := ⟨rfl, rfl, rfl, by decide +kernel, rfl, by decide +kernel, by decide +kernel⟩
theorem sc_is_text : FnScope ["wide", "thing", "own"] ["wide", "thing"] (defScope (top 8)) := ⟨rfl, rfl, rfl, by decide +kernel, rfl, by decide +kernel, by decide +kernel⟩
theorem sc_is_letters : FnScope ["wide", "thing", "near", "far"] ["wide", "thing"] (defScope (top 9)) := ⟨rfl, rfl, rfl, by decide +kernel, rfl, by decide +kernel, by decide +kernel⟩
theorem sc_is_tuple_of : FnScope ["thing", "many"] ["thing", "many"] (defScope (top 3)) := ⟨rfl, rfl, rfl, by decide +kernel, rfl, by decide +kernel, by decide +kernel⟩
theorem sc_is_ask : FnScope ["wide", "thing"] ["wide", "thing"] (defScope (top 16)) := ⟨rfl, rfl, rfl, by decide +kernel, rfl, by decide +kernel, by decide +kernel⟩
theorem sc_is_knot : FnScope ["wide", "many", "thing", "fine", "own"] ["wide", "many", "thing"] (defScope (top 22)) := ⟨rfl, rfl, rfl, by decide +kernel, rfl, by decide +kernel, by decide +kernel⟩
theorem sc_spots_of : FnScope ["knot"] ["knot"] (defScope (top 23)) := ⟨rfl, rfl, rfl, by decide +kernel, rfl, by decide +kernel, by decide +kernel⟩
theorem sc_is_tree : FnScope ["wide", "thing", "ahead", "number", "knot", "many", "later", "own"] ["wide", "thing"] (defScope (top 24)) := ⟨rfl, rfl, rfl, by decide +kernel, rfl, by decide +kernel, by decide +kernel⟩
theorem sc_manners : FnScope ["tree", "sides", "knot", "word", "side"] ["tree"] (defScope (top 27)) := ⟨rfl, rfl, rfl, by decide +kernel, rfl, by decide +kernel, by decide +kernel⟩
theorem sc__law_lists : FnScope ["matter", "own"] ["matter"] (defScope (top 45)) := ⟨rfl, rfl, rfl, by decide +kernel, rfl, by decide +kernel, by decide +kernel⟩
theorem sc__law_things_right : FnScope ["early", "some", "yes", "no", "goods", "bads", "got", "due", "own"] [] (defScope (top 48)) := ⟨rfl, rfl, rfl, by decide +kernel, rfl, by decide +kernel, by decide +kernel⟩
theorem sc_answer : FnScope ["tree", "text"] ["tree", "text"] (defScope (top 30)) := ⟨rfl, rfl, rfl, by decide +kernel, rfl, by decide +kernel, by decide +kernel⟩
theorem sc_way_of : FnScope ["tree", "text"] ["tree", "text"] (defScope (top 31)) := ⟨rfl, rfl, rfl, by decide +kernel, rfl, by decide +kernel, by decide +kernel⟩
theorem sc__law_runs_right : FnScope ["early", "some", "texts", "got", "due", "odd", "own"] [] (defScope (top 49)) := ⟨rfl, rfl, rfl, by decide +kernel, rfl, by decide +kernel, by decide +kernel⟩
theorem sc_far_name : FnScope ["far", "number", "many", "turns"] ["far", "number", "many", "turns"] (defScope (top 36)) := ⟨rfl, rfl, rfl, by decide +kernel, rfl, by decide +kernel, by decide +kernel⟩
theorem sc_near_name : FnScope ["near", "far", "number", "many", "word", "yes"] ["near", "far", "number", "many", "word"] (defScope (top 37)) := ⟨rfl, rfl, rfl, by decide +kernel, rfl, by decide +kernel, by decide +kernel⟩
theorem sc_moved : FnScope ["knot", "many", "places", "place", "own"] ["knot", "many"] (defScope (top 35)) := ⟨rfl, rfl, rfl, by decide +kernel, rfl, by decide +kernel, by decide +kernel⟩
theorem sc_tree_joined : FnScope ["one", "other", "word", "near", "far", "knots", "top", "left", "name", "ahead", "knot", "many", "later", "own"] ["one", "other", "word"] (defScope (top 38)) := ⟨rfl, rfl, rfl, by decide +kernel, rfl, by decide +kernel, by decide +kernel⟩
theorem sc_tree_contrary : FnScope ["tree", "knot"] ["tree"] (defScope (top 39)) := ⟨rfl, rfl, rfl, by decide +kernel, rfl, by decide +kernel, by decide +kernel⟩
theorem sc__law_made_right : FnScope ["early", "some", "yes", "no", "got", "due", "two", "own"] [] (defScope (top 50)) := ⟨rfl, rfl, rfl, by decide +kernel, rfl, by decide +kernel, by decide +kernel⟩
theorem sc__law_cells : FnScope ["script", "most", "cells", "k", "cell", "spot"] ["script", "most"] (defScope (top 43)) := ⟨rfl, rfl, rfl, by decide +kernel, rfl, by decide +kernel, by decide +kernel⟩
theorem sc_law : FnScope ["script"] ["script"] (defScope (top 52)) := ⟨rfl, rfl, rfl, by decide +kernel, rfl, by decide +kernel, by decide +kernel⟩
structure Txt (w : World) (K : PySem.W.Frag) (mg : Str → Option Value) : Prop where
  d__law_same : DefAt K mg "_law_same" (top 44) ["got", "goal"] []
  d__law_early : DefAt K mg "_law_early" (top 46) [] []
  d__law_some : DefAt K mg "_law_some" (top 47) [] []
  d_tuple_of : DefAt K mg "tuple_of" (top 2) ["thing"] []
  d_is_number : DefAt K mg "is_number" (top 1) ["thing"] []
  d_sure_place : DefAt K mg "sure_place" (top 10) ["text", "place"] []
  d_next_place : DefAt K mg "next_place" (top 11) ["text", "place", "letters"] []
  d_last_place : DefAt K mg "last_place" (top 12) ["text", "place", "letters"] []
  d_found : DefAt K mg "found" (top 17) ["text", "place", "side", "letters"] []
  d_gone : DefAt K mg "gone" (top 28) ["tree", "text"] []
  d_run : DefAt K mg "run" (top 29) ["tree", "text"] [(["text", "tree"], [1, 0])]
  d_next_knots : DefAt K mg "next_knots" (top 20) ["knot"] []
  d_asks_ahead : DefAt K mg "asks_ahead" (top 25) ["tree"] [(["tree"], [0])]
  d_depth : DefAt K mg "depth" (top 26) ["tree"] [(["tree"], [0])]
  d_with_next : DefAt K mg "with_next" (top 21) ["knot", "numbers"] []
  d_merged : DefAt K mg "merged" (top 32) ["knots", "top"] []
  d_numbered : DefAt K mg "numbered" (top 33) ["knots", "top"] []
  d_shared : DefAt K mg "shared" (top 34) ["tree"] [(["tree"], [0])]
  d_mirrored_knot : DefAt K mg "mirrored_knot" (top 40) ["knot"] []
  d_tree_mirrored : DefAt K mg "tree_mirrored" (top 41) ["tree"] [(["tree"], [0])]
  d__law_always_right : DefAt K mg "_law_always_right" (top 51) [] []
  d_is_side : DefAt K mg "is_side" (top 15) ["thing"] []
  d_is_letter : DefAt K mg "is_letter" (top 7) ["wide", "thing"] []
  d_is_text : DefAt K mg "is_text" (top 8) ["wide", "thing"] []
  d_is_letters : DefAt K mg "is_letters" (top 9) ["wide", "thing"] []
  d_is_tuple_of : DefAt K mg "is_tuple_of" (top 3) ["thing", "many"] []
  d_is_ask : DefAt K mg "is_ask" (top 16) ["wide", "thing"] []
  d_is_knot : DefAt K mg "is_knot" (top 22) ["wide", "many", "thing"] []
  d_spots_of : DefAt K mg "spots_of" (top 23) ["knot"] []
  d_is_tree : DefAt K mg "is_tree" (top 24) ["wide", "thing"] [(["thing", "wide"], [1, 0])]
  d_manners : DefAt K mg "manners" (top 27) ["tree"] []
  d__law_lists : DefAt K mg "_law_lists" (top 45) ["matter"] []
  d__law_things_right : DefAt K mg "_law_things_right" (top 48) [] []
  d_answer : DefAt K mg "answer" (top 30) ["tree", "text"] [(["text", "tree"], [1, 0])]
  d_way_of : DefAt K mg "way_of" (top 31) ["tree", "text"] [(["text", "tree"], [1, 0])]
  d__law_runs_right : DefAt K mg "_law_runs_right" (top 49) [] []
  d_far_name : DefAt K mg "far_name" (top 36) ["far", "number", "many", "turns"] []
  d_near_name : DefAt K mg "near_name" (top 37) ["near", "far", "number", "many", "word"] []
  d_moved : DefAt K mg "moved" (top 35) ["knot", "many"] []
  d_tree_joined : DefAt K mg "tree_joined" (top 38) ["one", "other", "word"] [(["word", "other", "one"], [2, 1, 0])]
  d_tree_contrary : DefAt K mg "tree_contrary" (top 39) ["tree"] [(["tree"], [0])]
  d__law_made_right : DefAt K mg "_law_made_right" (top 50) [] []
  d__law_cells : DefAt K mg "_law_cells" (top 43) ["script", "most"] []
  c_SIDES : KConAt w K mg "SIDES" (.tup [(.str [110, 101, 120, 116]), (.str [108, 97, 115, 116])])
  c_WORDS : KDicAt w K mg "WORDS" [([98, 111, 116, 104], (.bl false)), ([101, 105, 116, 104, 101, 114], (.bl true)), ([117, 110, 108, 105, 107, 101], .non)]
  b_all : mg "all" = none
  b_bool : mg "bool" = none
  b_dict : mg "dict" = none
  b_enumerate : mg "enumerate" = none
  b_int : mg "int" = none
  b_isinstance : mg "isinstance" = none
  b_len : mg "len" = none
  b_list : mg "list" = none
  b_max : mg "max" = none
  b_range : mg "range" = none
  b_sorted : mg "sorted" = none
  b_str : mg "str" = none
  b_tuple : mg "tuple" = none
  b_zip : mg "zip" = none
section
variable {P : Program} {w : World} {K : PySem.W.Frag} {mg : Str → Option Value} {base : Heap}
theorem fn__law_same (T : Txt w K mg) : ∀ k : Nat, FnAt P w K mg base (1 + k) "_law_same" 2 (f__law_same k) []
  | 0 => T.d__law_same.fn sc__law_same fun f cdv A outer s H E hr => b_never
  | k + 1 => T.d__law_same.fn sc__law_same fun f cdv A outer s H E hr => (b_cons (st_if (t_val (s_isi2 .tList .tTuple T.b_isinstance T.b_list T.b_tuple (s_var 1) (by rfl) (by rfl)))
    (b_cons (st_if (SW.st (w_or (t_cmp (o_ne hr.units) (s_isi .tList T.b_isinstance T.b_list (s_var 0) (by rfl)) (s_isi .tList T.b_isinstance T.b_list (s_var 1) (by rfl))) (w_or1 (t_cmp (o_ne hr.units) (s_isi .tTuple T.b_isinstance T.b_tuple (s_var 0) (by rfl)) (s_isi .tTuple T.b_isinstance T.b_tuple (s_var 1) (by rfl))))))
      (b_one (st_ret s_bl))
      b_nil)
    (b_one (st_ret (s_and (s_cmp (o_eq hr.units) (s_bl1 b_lenA T.b_len (by rfl) (a_cons (s_var 0) a_nil)) (s_bl1 b_lenA T.b_len (by rfl) (a_cons (s_var 1) a_nil))) (s_one (s_bl1 (b_all rfl) T.b_all (by rfl) (a_cons (s_comp [("mine", 2), ("own", 3)] rfl sc__law_same.nd (blkOk_by (N := ["got", "goal", "mine", "own"]) (sc := defScope (top 44)) (by decide +kernel)) (i_zip false (a_cons (s_var 0) (a_cons (s_var 1) a_nil)) T.b_zip) (fun j h => by first | simpa using h | (simp at h ⊢; omega)) (fun _ _ _ _ _ => (g_tup 2 rfl (gs_cons (g_name 2 sc__law_same.nd) (gs_cons (g_name 3 sc__law_same.nd) gs_nil)))) (fun _ _ _ _ _ => ts_nil) (fun _ _ _ _ _ => (s_call (fn__law_same T k) hr takes0 (a_cons (s_var 2) (a_cons (s_var 3) a_nil)) (hlen := (len_cons (len_cons len_nil)))))) a_nil)))))))
    b_nil)
  (b_cons (st_if (SW.st (w_or (t_cmp o_is (s_var 1) s_non) (w_or1 (t_val (s_isi2 .tBool .tStr T.b_isinstance T.b_bool T.b_str (s_var 1) (by rfl) (by rfl))))))
    (b_one (st_ret (s_and (s_cmp (o_eq hr.units) (s_var 0) (s_var 1)) (s_and (s_cmp (o_eq hr.units) (s_isi .tBool T.b_isinstance T.b_bool (s_var 0) (by rfl)) (s_isi .tBool T.b_isinstance T.b_bool (s_var 1) (by rfl))) (s_one (s_cmp (o_eq hr.units) (s_cmp o_is (s_var 0) s_non) (s_cmp o_is (s_var 1) s_non)))))))
    b_nil)
  (b_one (st_ret (s_and (s_isi .tInt T.b_isinstance T.b_int (s_var 0) (by rfl)) (s_and (s_not (s_isi .tBool T.b_isinstance T.b_bool (s_var 0) (by rfl))) (s_one (s_cmp (o_eq hr.units) (s_var 0) (s_var 1)))))))))
theorem fn__law_early (T : Txt w K mg) : FnAt P w K mg base 1 "_law_early" 0 f__law_early [] := T.d__law_early.fn sc__law_early fun f cdv A outer s H E hr => (b_one (st_ret (s_tup (a_cons (s_tup (a_cons (s_str [97, 115, 107]) (a_cons s_int (a_cons (s_str [110, 101, 120, 116]) (a_cons (s_tup (a_cons s_int a_nil)) (a_cons s_int a_nil)))))) (a_cons (s_tup (a_cons (s_str [97, 115, 107]) (a_cons s_int (a_cons (s_str [108, 97, 115, 116]) (a_cons (s_tup (a_cons s_int a_nil)) (a_cons s_int a_nil)))))) (a_cons (s_tup (a_cons (s_str [111, 114, 100, 101, 114]) (a_cons s_int (a_cons s_int (a_cons s_int (a_cons s_int (a_cons s_int a_nil))))))) (a_cons (s_tup (a_cons (s_str [115, 97, 121]) (a_cons s_bl a_nil))) (a_cons (s_tup (a_cons (s_str [115, 97, 121]) (a_cons s_bl a_nil))) a_nil))))))))
theorem fn__law_some (T : Txt w K mg) : FnAt P w K mg base 1 "_law_some" 0 f__law_some [] := T.d__law_some.fn sc__law_some fun f cdv A outer s H E hr => (b_one (st_ret (s_tup (a_cons (s_tup (a_cons (s_str [97, 115, 107]) (a_cons s_int (a_cons (s_str [108, 97, 115, 116]) (a_cons (s_tup (a_cons s_int a_nil)) (a_cons s_int a_nil)))))) (a_cons (s_tup (a_cons (s_str [111, 114, 100, 101, 114]) (a_cons s_int (a_cons s_int (a_cons s_int (a_cons s_int (a_cons s_int a_nil))))))) (a_cons (s_tup (a_cons (s_str [115, 97, 121]) (a_cons s_bl a_nil))) (a_cons (s_tup (a_cons (s_str [115, 97, 121]) (a_cons s_bl a_nil))) a_nil)))))))
theorem fn_tuple_of (T : Txt w K mg) : ∀ k : Nat, FnAt P w K mg base (1 + k) "tuple_of" 1 (f_tuple_of k) []
  | 0 => T.d_tuple_of.fn sc_tuple_of fun f cdv A outer s H E hr => b_never
  | k + 1 => T.d_tuple_of.fn sc_tuple_of fun f cdv A outer s H E hr => (b_cons (st_if (t_val (s_isi2 .tList .tTuple T.b_isinstance T.b_list T.b_tuple (s_var 0) (by rfl) (by rfl)))
    (b_one (st_ret (s_ty1 b_tup T.b_tuple (by rfl) (a_cons (s_comp [("part", 1)] rfl sc_tuple_of.nd (blkOk_by (N := ["thing", "part"]) (sc := defScope (top 2)) (by decide +kernel)) (i_seq false (s_var 0)) (fun j h => by first | simpa using h | (simp at h ⊢; omega)) (fun _ _ _ _ _ => (g_name 1 sc_tuple_of.nd)) (fun _ _ _ _ _ => ts_nil) (fun _ _ _ _ _ => (s_call (fn_tuple_of T k) hr takes0 (a_cons (s_var 1) a_nil) (hlen := (len_cons len_nil))))) a_nil))))
    b_nil)
  (b_one (st_ret (s_var 0))))
theorem fn_is_number (T : Txt w K mg) : FnAt P w K mg base 1 "is_number" 1 f_is_number [] := T.d_is_number.fn sc_is_number fun f cdv A outer s H E hr => (b_one (st_ret (s_and (s_isi .tInt T.b_isinstance T.b_int (s_var 0) (by rfl)) (s_one (s_not (s_isi .tBool T.b_isinstance T.b_bool (s_var 0) (by rfl)))))))
theorem fn_sure_place (T : Txt w K mg) : FnAt P w K mg base 2 "sure_place" 2 f_sure_place [] := T.d_sure_place.fn sc_sure_place fun f cdv A outer s H E hr => (b_one (st_if (SW.st (w_or (t_not (t_val (s_call (fn_is_number T) (hr.mono (by decide)) (takes_of rfl rfl rfl rfl) (a_cons (s_var 1) a_nil) (hlen := (len_cons len_nil))))) (w_or1 (t_not (t_chain (o_le hr.units) (o_le hr.units) s_int (s_var 1) (s_bin o_add (s_bl1 b_lenA T.b_len (by rfl) (a_cons (s_var 0) a_nil)) s_int))))))
    (b_one st_never)
    b_nil))
theorem fn_next_place (T : Txt w K mg) : FnAt P w K mg base 3 "next_place" 3 f_next_place [] := T.d_next_place.fn sc_next_place fun f cdv A outer s H E hr => (b_cons (st_drop (s_call (fn_sure_place T) (hr.mono (by decide)) (takes_of rfl rfl rfl rfl) (a_cons (s_var 0) (a_cons (s_var 1) a_nil)) (hlen := (len_cons (len_cons len_nil)))))
  (b_cons (st_for (passes_of rfl) rfl (i_range2 true (a_cons (s_bin o_add (s_var 1) s_int) (a_cons (s_bin o_add (s_bl1 b_lenA T.b_len (by rfl) (a_cons (s_var 0) a_nil)) s_int) a_nil)) T.b_range) (g_name 3 sc_next_place.nd)
    (b_one (st_if (t_cmp (o_inA (Room.u65 hr)) (s_ixA (Room.u65 hr) (s_var 0) (s_bin o_sub (s_var 3) s_int)) (s_var 2))
      (b_one (st_ret (s_var 3)))
      b_nil)))
  (b_one (st_ret (s_bin o_add (s_bl1 b_lenA T.b_len (by rfl) (a_cons (s_var 0) a_nil)) s_int)))))
theorem fn_last_place (T : Txt w K mg) : FnAt P w K mg base 3 "last_place" 3 f_last_place [] := T.d_last_place.fn sc_last_place fun f cdv A outer s H E hr => (b_cons (st_drop (s_call (fn_sure_place T) (hr.mono (by decide)) (takes_of rfl rfl rfl rfl) (a_cons (s_var 0) (a_cons (s_var 1) a_nil)) (hlen := (len_cons (len_cons len_nil)))))
  (b_cons (st_for (passes_of rfl) rfl (i_range3 true (a_cons (s_bin o_sub (s_var 1) s_int) (a_cons s_int (a_cons (s_neg s_int) a_nil))) (fun _ => pi_range3 (by rfl) T.b_range tWA_pa)) (g_name 3 sc_last_place.nd)
    (b_one (st_if (t_cmp (o_inA (Room.u65 hr)) (s_ixA (Room.u65 hr) (s_var 0) (s_bin o_sub (s_var 3) s_int)) (s_var 2))
      (b_one (st_ret (s_var 3)))
      b_nil)))
  (b_one (st_ret s_int))))
theorem fn_found (T : Txt w K mg) : FnAt P w K mg base 4 "found" 4 f_found [] := T.d_found.fn sc_found fun f cdv A outer s H E hr => (b_one (st_ret (s_if (t_cmp (o_eq hr.units) (s_var 2) (s_str [110, 101, 120, 116])) (s_call (fn_next_place T) (hr.mono (by decide)) (takes_of rfl rfl rfl rfl) (a_cons (s_var 0) (a_cons (s_var 1) (a_cons (s_var 3) a_nil))) (hlen := (len_cons (len_cons (len_cons len_nil))))) (s_call (fn_last_place T) (hr.mono (by decide)) (takes_of rfl rfl rfl rfl) (a_cons (s_var 0) (a_cons (s_var 1) (a_cons (s_var 3) a_nil))) (hlen := (len_cons (len_cons (len_cons len_nil))))))))
theorem fn_gone (T : Txt w K mg) : FnAt P w K mg base 14 "gone" 2 f_gone [] := T.d_gone.fn sc_gone fun f cdv A outer s H E hr => (b_cons (st_par2 rfl sc_gone.nd rfl rfl (by decide) rfl rfl (a_cons (s_call (fn_tuple_of T 12) (hr.mono (by decide)) (takes_of rfl rfl rfl rfl) (a_cons (s_var 0) a_nil) (hlen := (len_cons len_nil))) (a_cons (s_call (fn_tuple_of T 12) (hr.mono (by decide)) (takes_of rfl rfl rfl rfl) (a_cons (s_var 1) a_nil) (hlen := (len_cons len_nil))) a_nil)) (by rfl))
  (b_cons (st_parV rfl sc_gone.nd rfl rfl (by decide) rfl rfl (s_lst (a_cons s_int a_nil)) (s_lst (a_cons s_int (a_cons (s_bin o_add (s_bl1 b_lenA T.b_len (by rfl) (a_cons (s_var 3) a_nil)) s_int) a_nil))) (by rfl))
  (b_cons (st_while 100000 (passes_of rfl) (t_cmp (o_ne hr.units) (s_ixA (Room.u65 hr) (s_ixA (Room.u65 hr) (s_var 2) (s_ixA (Room.u65 hr) (s_var 4) (s_neg s_int))) s_int) (s_str [115, 97, 121]))
    (b_cons (st_set sc_gone.nd rfl (.inl rfl) (s_ixA (Room.u65 hr) (s_var 2) (s_ixA (Room.u65 hr) (s_var 4) (s_neg s_int))))
    (b_one (st_if (t_cmp (o_eq hr.units) (s_ixA (Room.u65 hr) (s_var 6) s_int) (s_str [97, 115, 107]))
      (b_cons (st_mut F.slot_list_append (by rfl) m_app 5 (a_cons (s_call (fn_found T) (hr.mono (by decide)) (takes_of rfl rfl rfl rfl) (a_cons (s_var 3) (a_cons (s_ixA (Room.u65 hr) (s_var 5) (s_ixA (Room.u65 hr) (s_var 6) s_int)) (a_cons (s_ixA (Room.u65 hr) (s_var 6) s_int) (a_cons (s_ixA (Room.u65 hr) (s_var 6) s_int) a_nil)))) (hlen := (len_cons (len_cons (len_cons (len_cons len_nil)))))) a_nil))
      (b_one (st_mut F.slot_list_append (by rfl) m_app 4 (a_cons (s_ixA (Room.u65 hr) (s_var 6) s_int) a_nil))))
      (b_cons (st_par2 rfl sc_gone.nd rfl rfl (by decide) rfl rfl (a_cons (s_ixA (Room.u65 hr) (s_var 5) (s_ixA (Room.u65 hr) (s_var 6) s_int)) (a_cons (s_ixA (Room.u65 hr) (s_var 5) (s_ixA (Room.u65 hr) (s_var 6) s_int)) a_nil)) (by rfl))
      (b_one (st_mut F.slot_list_append (by rfl) m_app 4 (a_cons (s_if (t_cmp (o_lt hr.units) (s_var 7) (s_var 8)) (s_ixA (Room.u65 hr) (s_var 6) s_int) (s_if (t_cmp (o_eq hr.units) (s_var 7) (s_var 8)) (s_ixA (Room.u65 hr) (s_var 6) s_int) (s_ixA (Room.u65 hr) (s_var 6) s_int))) a_nil))))))))
  (b_one (st_ret (s_tup (a_cons (s_ty1 b_tup T.b_tuple (by rfl) (a_cons (s_var 4) a_nil)) (a_cons (s_ty1 b_tup T.b_tuple (by rfl) (a_cons (s_var 5) a_nil)) a_nil))))))))
theorem fn_run (T : Txt w K mg) : FnAt P w K mg base 15 "run" 2 f_run [(["text", "tree"], [1, 0])] := T.d_run.fn sc_run fun f cdv A outer s H E hr => (b_cons (st_asg (s_call (fn_gone T) (hr.mono (by decide)) (takes_of rfl rfl rfl rfl) (a_cons (s_var 0) (a_cons (s_var 1) a_nil)) (hlen := (len_cons (len_cons len_nil)))) (g_tup 2 rfl (gs_cons (g_name 2 sc_run.nd) (gs_cons (g_name 3 sc_run.nd) gs_nil))))
  (b_one (st_ret (s_tup (a_cons (s_var 3) (a_cons (s_ixA (Room.u65 hr) (s_ixA (Room.u65 hr) (s_var 0) (s_ixA (Room.u65 hr) (s_var 2) (s_neg s_int))) s_int) a_nil))))))
theorem fn_next_knots (T : Txt w K mg) : FnAt P w K mg base 1 "next_knots" 1 f_next_knots [] := T.d_next_knots.fn sc_next_knots fun f cdv A outer s H E hr => (b_cons (st_if (t_cmp (o_eq hr.units) (s_ixA (Room.u65 hr) (s_var 0) s_int) (s_str [115, 97, 121]))
    (b_one (st_ret (s_tup a_nil)))
    b_nil)
  (b_one (st_ret (s_if (t_cmp (o_eq hr.units) (s_ixA (Room.u65 hr) (s_var 0) s_int) (s_str [97, 115, 107])) (s_cut (s_var 0) (p_at s_int) p_no) (s_cut (s_var 0) (p_at s_int) p_no)))))
theorem fn_asks_ahead (T : Txt w K mg) : FnAt P w K mg base 14 "asks_ahead" 1 f_asks_ahead [(["tree"], [0])] := T.d_asks_ahead.fn sc_asks_ahead fun f cdv A outer s H E hr => (b_cons (st_set sc_asks_ahead.nd rfl (.inl rfl) (s_call (fn_tuple_of T 12) (hr.mono (by decide)) (takes_of rfl rfl rfl rfl) (a_cons (s_var 0) a_nil) (hlen := (len_cons len_nil))))
  (b_cons (st_var sc_asks_ahead.nd rfl (.inl rfl) (s_bin o_mul (s_lst (a_cons s_int a_nil)) (s_bl1 b_lenA T.b_len (by rfl) (a_cons (s_var 1) a_nil))))
  (b_cons (st_for (passes_of rfl) rfl (i_enum true (a_cons (s_var 1) a_nil) T.b_enumerate) (g_tup 2 rfl (gs_cons (g_name 3 sc_asks_ahead.nd) (gs_cons (g_name 4 sc_asks_ahead.nd) gs_nil)))
    (b_one (st_for (passes_of rfl) rfl (i_seq true (s_call (fn_next_knots T) (hr.mono (by decide)) (takes_of rfl rfl rfl rfl) (a_cons (s_var 4) a_nil) (hlen := (len_cons len_nil)))) (g_name 5 sc_asks_ahead.nd)
      (b_one (st_put 2 (s_var 5) (s_bl1 (b_maxA rfl) T.b_max (by rfl) (a_cons (s_ixA (Room.u65 hr) (s_var 2) (s_var 5)) (a_cons (s_bin o_add (s_ixA (Room.u65 hr) (s_var 2) (s_var 3)) (s_ty1 b_int T.b_int (by rfl) (a_cons (s_cmp (o_eq hr.units) (s_ixA (Room.u65 hr) (s_var 4) s_int) (s_str [97, 115, 107])) a_nil))) a_nil))))))))
  (b_one (st_ret (s_ty1 b_tup T.b_tuple (by rfl) (a_cons (s_var 2) a_nil)))))))
theorem fn_depth (T : Txt w K mg) : FnAt P w K mg base 15 "depth" 1 f_depth [(["tree"], [0])] := T.d_depth.fn sc_depth fun f cdv A outer s H E hr => (b_one (st_ret (s_bl1 (b_maxA rfl) T.b_max (by rfl) (a_cons (s_call (fn_asks_ahead T) (hr.mono (by decide)) (takes_of rfl rfl rfl rfl) (a_cons (s_var 0) a_nil) (hlen := (len_cons len_nil))) a_nil))))
theorem fn_with_next (T : Txt w K mg) : FnAt P w K mg base 1 "with_next" 2 f_with_next [] := T.d_with_next.fn sc_with_next fun f cdv A outer s H E hr => (b_one (st_ret (s_bin o_add (s_cut (s_var 0) p_no (p_at (s_bin o_sub (s_bl1 b_lenA T.b_len (by rfl) (a_cons (s_var 0) a_nil)) (s_bl1 b_lenA T.b_len (by rfl) (a_cons (s_var 1) a_nil))))) (s_ty1 b_tup T.b_tuple (by rfl) (a_cons (s_var 1) a_nil)))))
theorem fn_merged (T : Txt w K mg) : FnAt P w K mg base 2 "merged" 2 f_merged [] := T.d_merged.fn sc_merged fun f cdv A outer s H E hr => (b_cons (st_parN 2 rfl sc_merged.nd (NGs.cons 2 (NGs.cons 3 NGs.nil)) (SEs.cons s_dnew (SEs.cons s_dnew SEs.nil)))
  (b_cons (st_parV rfl sc_merged.nd rfl rfl (by decide) rfl rfl (s_lst a_nil) (s_lst (a_cons (s_tup (a_cons (s_var 1) (a_cons s_bl a_nil))) a_nil)) (by rfl))
  (b_cons (st_while 100000 (passes_of rfl) (t_cmp (o_ne hr.units) (s_var 5) (s_lst a_nil))
    (b_cons (st_popG F.slot_list_pop (by rfl) 5 (g_tup 2 rfl (gs_cons (g_name 6 sc_merged.nd) (gs_cons (g_name 7 sc_merged.nd) gs_nil))))
    (b_one (st_if (t_val (s_var 7))
      (b_cons (st_asg (s_ixA (Room.u65 hr) (s_var 0) (s_var 6)) (g_tup 2 rfl (gs_cons (g_name 8 sc_merged.nd) (gs_cons (g_name 9 sc_merged.nd) gs_nil))))
      (b_cons (st_set sc_merged.nd rfl (.inl rfl) (s_tup (a_cons (s_if (t_cmp (o_ne hr.units) (s_ixA (Room.u65 hr) (s_var 9) s_int) (s_str [115, 97, 121])) (s_var 8) s_int) (a_cons (s_call (fn_with_next T) (hr.mono (by decide)) (takes_of rfl rfl rfl rfl) (a_cons (s_var 9) (a_cons (s_comp [("own", 11)] rfl sc_merged.nd (blkOk_by (N := ["knots", "top", "same", "names", "order", "left", "name", "done", "ahead", "knot", "key", "own", "number"]) (sc := defScope (top 32)) (by decide +kernel)) (i_seq false (s_call (fn_next_knots T) (hr.mono (by decide)) (takes_of rfl rfl rfl rfl) (a_cons (s_var 9) a_nil) (hlen := (len_cons len_nil)))) (fun j h => by first | simpa using h | (simp at h ⊢; omega)) (fun _ _ _ _ _ => (g_name 11 sc_merged.nd)) (fun _ _ _ _ _ => ts_nil) (fun _ _ _ _ _ => (s_ixA (Room.u65 hr) (s_var 3) (s_var 11)))) a_nil)) (hlen := (len_cons (len_cons len_nil)))) a_nil))))
      (b_one (st_setD (Room.u65 hr) 3 2 F.type_dict_setdefault (s_var 6) (s_var 10) (s_bl1 b_lenA T.b_len (by rfl) (a_cons (s_var 2) a_nil))))))
      (b_one (st_if (t_cmp (o_notinA (Room.u65 hr)) (s_var 6) (s_var 4))
        (b_cons (st_mut F.slot_list_append (by rfl) m_app 4 (a_cons (s_var 6) a_nil))
        (b_cons (st_mut F.slot_list_append (by rfl) m_app 5 (a_cons (s_tup (a_cons (s_var 6) (a_cons s_bl a_nil))) a_nil))
        (b_one (st_mut F.slot_list_extend (by rfl) m_ext 5 (a_cons (s_comp [("own", 11)] rfl sc_merged.nd (blkOk_by (N := ["knots", "top", "same", "names", "order", "left", "name", "done", "ahead", "knot", "key", "own", "number"]) (sc := defScope (top 32)) (by decide +kernel)) (i_seq false (s_rev (s_call (fn_next_knots T) (hr.mono (by decide)) (takes_of rfl rfl rfl rfl) (a_cons (s_ixA (Room.u65 hr) (s_ixA (Room.u65 hr) (s_var 0) (s_var 6)) s_int) a_nil) (hlen := (len_cons len_nil))))) (fun j h => by first | simpa using h | (simp at h ⊢; omega)) (fun _ _ _ _ _ => (g_name 11 sc_merged.nd)) (fun _ _ _ _ _ => ts_nil) (fun _ _ _ _ _ => (s_tup (a_cons (s_var 11) (a_cons s_bl a_nil))))) a_nil)))))
        b_nil))))))
  (b_one (st_ret (s_tup (a_cons (s_dcomp [("key", 10), ("number", 12)] rfl sc_merged.nd (blkOk_by (N := ["knots", "top", "same", "names", "order", "left", "name", "done", "ahead", "knot", "key", "own", "number"]) (sc := defScope (top 32)) (by decide +kernel)) (s_var 2) (fun j h => by first | simpa using h | (simp at h ⊢; omega)) (fun _ _ _ _ _ => (g_tup 2 rfl (gs_cons (g_name 10 sc_merged.nd) (gs_cons (g_name 12 sc_merged.nd) gs_nil)))) (fun _ _ _ _ _ => (s_var 12)) (fun _ _ _ _ _ => (s_ixA (Room.u65 hr) (s_var 10) s_int))) (a_cons (s_ixA (Room.u65 hr) (s_var 3) (s_var 1)) a_nil))))))))
theorem fn_numbered (T : Txt w K mg) : FnAt P w K mg base 3 "numbered" 2 f_numbered [] := T.d_numbered.fn sc_numbered fun f cdv A outer s H E hr => (b_cons (st_asg (s_call (fn_merged T) (hr.mono (by decide)) (takes_of rfl rfl rfl rfl) (a_cons (s_var 0) (a_cons (s_var 1) a_nil)) (hlen := (len_cons (len_cons len_nil)))) (g_tup 2 rfl (gs_cons (g_name 2 sc_numbered.nd) (gs_cons (g_name 3 sc_numbered.nd) gs_nil))))
  (b_cons (st_var sc_numbered.nd rfl (.inl rfl) (s_disp (pp_cons (s_var 3) s_int pp_nil) (ppl_cons ppl_nil)))
  (b_cons (st_for (passes_of rfl) rfl (i_seq true (s_sortDR rfl T.b_sorted (s_var 2))) (g_name 5 sc_numbered.nd)
    (b_one (st_for (passes_of rfl) rfl (i_seq true (s_call (fn_next_knots T) (hr.mono (by decide)) (takes_of rfl rfl rfl rfl) (a_cons (s_ixA (Room.u65 hr) (s_var 2) (s_var 5)) a_nil) (hlen := (len_cons len_nil)))) (g_name 6 sc_numbered.nd)
      (b_one (st_putD (Room.u65 hr) 4 (s_var 6) (s_bl1 (b_maxA rfl) T.b_max (by rfl) (a_cons (s_dget2 (Room.u65 hr) (s_var 4) (s_var 6) s_int) (a_cons (s_bin o_add (s_ixA (Room.u65 hr) (s_var 4) (s_var 5)) s_int) a_nil))))))))
  (b_cons (st_parN 2 rfl sc_numbered.nd (NGs.cons 7 (NGs.cons 8 NGs.nil)) (SEs.cons (s_lst (a_cons (s_var 3) a_nil)) (SEs.cons (s_disp (pp_cons (s_var 3) s_int pp_nil) (ppl_cons ppl_nil)) SEs.nil)))
  (b_cons (st_for (passes_of rfl) rfl (i_range2 true (a_cons s_int (a_cons (s_bin o_add (s_maxV rfl T.b_max (s_var 4)) s_int) a_nil)) T.b_range) (g_name 9 sc_numbered.nd)
    (b_one (st_for (passes_of rfl) rfl (i_seq true (s_ty1 b_lst T.b_list (by rfl) (a_cons (s_var 7) a_nil))) (g_name 5 sc_numbered.nd)
      (b_one (st_for (passes_of rfl) rfl (i_seq true (s_call (fn_next_knots T) (hr.mono (by decide)) (takes_of rfl rfl rfl rfl) (a_cons (s_ixA (Room.u65 hr) (s_var 2) (s_var 5)) a_nil) (hlen := (len_cons len_nil)))) (g_name 6 sc_numbered.nd)
        (b_one (st_if (SW.st (w_and (t_cmp (o_eq hr.units) (s_ixA (Room.u65 hr) (s_var 4) (s_var 6)) (s_var 9)) (w_and1 (t_cmp (o_notinA (Room.u65 hr)) (s_var 6) (s_var 8)))))
          (b_cons (st_putD (Room.u65 hr) 8 (s_var 6) (s_bl1 b_lenA T.b_len (by rfl) (a_cons (s_var 7) a_nil)))
          (b_one (st_mut F.slot_list_append (by rfl) m_app 7 (a_cons (s_var 6) a_nil))))
          b_nil)))))))
  (b_one (st_ret (s_ty1 b_tup T.b_tuple (by rfl) (a_cons (s_comp [("name", 5)] rfl sc_numbered.nd (blkOk_by (N := ["knots", "top", "own", "first", "levels", "name", "later", "rows", "numbers", "level"]) (sc := defScope (top 33)) (by decide +kernel)) (i_seq false (s_var 7)) (fun j h => by first | simpa using h | (simp at h ⊢; omega)) (fun _ _ _ _ _ => (g_name 5 sc_numbered.nd)) (fun _ _ _ _ _ => ts_nil) (fun _ _ _ _ _ => (s_call (fn_with_next T) (hr.mono (by decide)) takes0 (a_cons (s_ixA (Room.u65 hr) (s_var 2) (s_var 5)) (a_cons (s_comp [("later", 6)] rfl sc_numbered.nd (blkOk_nest (N := ["knots", "top", "own", "first", "levels", "name", "later", "rows", "numbers", "level"]) (by decide +kernel)) (i_seq false (s_call (fn_next_knots T) (hr.mono (by decide)) takes0 (a_cons (s_ixA (Room.u65 hr) (s_var 2) (s_var 5)) a_nil) (hlen := (len_cons len_nil)))) (fun j h => by first | simpa using h | (simp at h ⊢; omega)) (fun _ _ _ _ _ => (g_name 6 sc_numbered.nd)) (fun _ _ _ _ _ => ts_nil) (fun _ _ _ _ _ => (s_ixA (Room.u65 hr) (s_var 8) (s_var 6)))) a_nil)) (hlen := (len_cons (len_cons len_nil)))))) a_nil)))))))))
theorem fn_shared (T : Txt w K mg) : FnAt P w K mg base 15 "shared" 1 f_shared [(["tree"], [0])] := T.d_shared.fn sc_shared fun f cdv A outer s H E hr => (b_cons (st_set sc_shared.nd rfl (.inl rfl) (s_call (fn_tuple_of T 12) (hr.mono (by decide)) (takes_of rfl rfl rfl rfl) (a_cons (s_var 0) a_nil) (hlen := (len_cons len_nil))))
  (b_one (st_ret (s_call (fn_numbered T) (hr.mono (by decide)) (takes_of rfl rfl rfl rfl) (a_cons (s_dez rfl T.b_dict T.b_enumerate T.b_zip (a_cons (s_call (fn_asks_ahead T) (hr.mono (by decide)) (takes_of rfl rfl rfl rfl) (a_cons (s_var 1) a_nil) (hlen := (len_cons len_nil))) (a_cons (s_var 1) a_nil))) (a_cons s_int a_nil)) (hlen := (len_cons (len_cons len_nil)))))))
theorem fn_mirrored_knot (T : Txt w K mg) : FnAt P w K mg base 1 "mirrored_knot" 1 f_mirrored_knot [] := T.d_mirrored_knot.fn sc_mirrored_knot fun f cdv A outer s H E hr => (b_cons (st_if (t_cmp (o_eq hr.units) (s_ixA (Room.u65 hr) (s_var 0) s_int) (s_str [115, 97, 121]))
    (b_one (st_ret (s_var 0)))
    b_nil)
  (b_cons (st_if (t_cmp (o_eq hr.units) (s_ixA (Room.u65 hr) (s_var 0) s_int) (s_str [97, 115, 107]))
    (b_cons (st_set sc_mirrored_knot.nd rfl (.inl rfl) (s_if (t_cmp (o_lt hr.units) (s_ixA (Room.u65 hr) (s_var 0) s_int) s_int) (s_bin o_sub s_int (s_ixA (Room.u65 hr) (s_var 0) s_int)) (s_ixA (Room.u65 hr) (s_var 0) s_int)))
    (b_one (st_ret (s_bin o_add (s_tup (a_cons (s_str [97, 115, 107]) (a_cons (s_var 1) (a_cons (s_if (t_cmp (o_eq hr.units) (s_ixA (Room.u65 hr) (s_var 0) s_int) (s_str [110, 101, 120, 116])) (s_str [108, 97, 115, 116]) (s_str [110, 101, 120, 116])) a_nil)))) (s_cut (s_var 0) (p_at s_int) p_no)))))
    b_nil)
  (b_cons (st_setLc [("own", 3)] rfl sc_mirrored_knot.nd (blkOk_by (N := ["knot", "spot", "spots", "own"]) (sc := defScope (top 40)) (by decide +kernel)) rfl rfl (sw_true rfl rfl rfl (by decide +kernel)) (i_seq false (s_cut (s_var 0) (p_at s_int) (p_at s_int))) (fun j h => by first | simpa using h | (simp at h ⊢; omega)) (fun _ _ _ _ _ => (g_name 3 sc_mirrored_knot.nd)) (fun _ _ _ _ _ => ts_nil) (fun _ _ _ _ _ => (s_if (t_cmp (o_lt hr.units) (s_var 3) s_int) (s_bin o_sub s_int (s_var 3)) (s_var 3))))
  (b_one (st_ret (s_tup (a_cons (s_str [111, 114, 100, 101, 114]) (a_cons (s_ixA (Room.u65 hr) (s_var 2) s_int) (a_cons (s_ixA (Room.u65 hr) (s_var 2) s_int) (a_cons (s_ixA (Room.u65 hr) (s_var 0) s_int) (a_cons (s_ixA (Room.u65 hr) (s_var 0) s_int) (a_cons (s_ixA (Room.u65 hr) (s_var 0) s_int) a_nil))))))))))))
theorem fn_tree_mirrored (T : Txt w K mg) : FnAt P w K mg base 14 "tree_mirrored" 1 f_tree_mirrored [(["tree"], [0])] := T.d_tree_mirrored.fn sc_tree_mirrored fun f cdv A outer s H E hr => (b_one (st_ret (s_ty1 b_tup T.b_tuple (by rfl) (a_cons (s_comp [("knot", 1)] rfl sc_tree_mirrored.nd (blkOk_by (N := ["tree", "knot"]) (sc := defScope (top 41)) (by decide +kernel)) (i_seq false (s_call (fn_tuple_of T 12) (hr.mono (by decide)) (takes_of rfl rfl rfl rfl) (a_cons (s_var 0) a_nil) (hlen := (len_cons len_nil)))) (fun j h => by first | simpa using h | (simp at h ⊢; omega)) (fun _ _ _ _ _ => (g_name 1 sc_tree_mirrored.nd)) (fun _ _ _ _ _ => ts_nil) (fun _ _ _ _ _ => (s_call (fn_mirrored_knot T) (hr.mono (by decide)) takes0 (a_cons (s_var 1) a_nil) (hlen := (len_cons len_nil))))) a_nil))))
theorem fn__law_always_right (T : Txt w K mg) : FnAt P w K mg base 16 "_law_always_right" 0 f__law_always_right [] := T.d__law_always_right.fn sc__law_always_right fun f cdv A outer s H E hr => (b_cons (st_par2 rfl sc__law_always_right.nd rfl rfl (by decide) rfl rfl (a_cons (s_call0 (fn__law_early T) (hr.mono (by decide)) (takes_of rfl rfl rfl rfl)) (a_cons (s_call0 (fn__law_some T) (hr.mono (by decide)) (takes_of rfl rfl rfl rfl)) a_nil)) (by rfl))
  (b_cons (st_var sc__law_always_right.nd rfl (.inl rfl) (s_lst (a_cons (s_call (fn_run T) (hr.mono (by decide)) (takes_of rfl rfl rfl rfl) (a_cons (s_var 0) (a_cons (s_tup (a_cons s_int (a_cons s_int a_nil))) a_nil)) (hlen := (len_cons (len_cons len_nil)))) (a_cons (s_call (fn_run T) (hr.mono (by decide)) (takes_of rfl rfl rfl rfl) (a_cons (s_var 1) (a_cons (s_tup (a_cons s_int a_nil)) a_nil)) (hlen := (len_cons (len_cons len_nil)))) (a_cons (s_ixA (Room.u65 hr) (s_call (fn_shared T) (hr.mono (by decide)) (takes_of rfl rfl rfl rfl) (a_cons (s_bin o_add (s_cut (s_var 1) p_no (p_at s_int)) (s_tup (a_cons (s_tup (a_cons (s_str [115, 97, 121]) (a_cons s_bl a_nil))) (a_cons (s_tup (a_cons (s_str [115, 97, 121]) (a_cons s_bl a_nil))) a_nil)))) a_nil) (hlen := (len_cons len_nil))) s_int) (a_cons (s_ixA (Room.u65 hr) (s_call (fn_tree_mirrored T) (hr.mono (by decide)) (takes_of rfl rfl rfl rfl) (a_cons (s_var 1) a_nil) (hlen := (len_cons len_nil))) s_int) (a_cons (s_call (fn_depth T) (hr.mono (by decide)) (takes_of rfl rfl rfl rfl) (a_cons (s_var 0) a_nil) (hlen := (len_cons len_nil))) a_nil)))))))
  (b_cons (st_mut F.slot_list_append (by rfl) m_app 2 (a_cons (s_call (fn_shared T) (hr.mono (by decide)) (takes_of rfl rfl rfl rfl) (a_cons (s_tup (a_cons (s_tup (a_cons (s_str [111, 114, 100, 101, 114]) (a_cons s_int (a_cons s_int (a_cons s_int (a_cons s_int (a_cons s_int a_nil))))))) (a_cons (s_tup (a_cons (s_str [115, 97, 121]) (a_cons s_bl a_nil))) (a_cons (s_tup (a_cons (s_str [115, 97, 121]) (a_cons s_bl a_nil))) a_nil)))) a_nil) (hlen := (len_cons len_nil))) a_nil))
  (b_cons (st_set sc__law_always_right.nd rfl (.inl rfl) (s_lst (a_cons (s_tup (a_cons (s_tup (a_cons s_int (a_cons s_int (a_cons s_int (a_cons s_int a_nil))))) (a_cons s_bl a_nil))) (a_cons (s_tup (a_cons (s_tup (a_cons s_int (a_cons s_int (a_cons s_int a_nil)))) (a_cons s_bl a_nil))) (a_cons (s_ixA (Room.u65 hr) (s_var 1) s_int) (a_cons (s_tup (a_cons (s_str [97, 115, 107]) (a_cons s_int (a_cons (s_str [110, 101, 120, 116]) (a_cons (s_tup (a_cons s_int a_nil)) (a_cons s_int a_nil)))))) (a_cons s_int a_nil)))))))
  (st_fz 2 (b_one (st_ret (s_call (fn__law_same T 12) (hr.mono (by decide)) (takes_of rfl rfl rfl rfl) (a_cons (s_var 2) (a_cons (s_bin o_add (s_var 3) (s_lst (a_cons (s_tup (a_cons (s_tup (a_cons (s_str [111, 114, 100, 101, 114]) (a_cons s_int (a_cons s_int (a_cons s_int (a_cons s_int (a_cons s_int a_nil))))))) (a_cons (s_tup (a_cons (s_str [115, 97, 121]) (a_cons s_bl a_nil))) a_nil))) a_nil))) a_nil)) (hlen := (len_cons (len_cons len_nil)))))))))))
theorem fn_is_side (T : Txt w K mg) : FnAt P w K mg base 1 "is_side" 1 f_is_side [] := T.d_is_side.fn sc_is_side fun f cdv A outer s H E hr => (b_one (st_ret (s_and (s_isi .tStr T.b_isinstance T.b_str (s_var 0) (by rfl)) (s_one (s_cmp (o_inA (Room.u65 hr)) (s_var 0) (s_kcon T.c_SIDES))))))
theorem fn_is_letter (T : Txt w K mg) : FnAt P w K mg base 2 "is_letter" 2 f_is_letter [] := T.d_is_letter.fn sc_is_letter fun f cdv A outer s H E hr => (b_one (st_ret (s_and (s_call (fn_is_number T) (hr.mono (by decide)) (takes_of rfl rfl rfl rfl) (a_cons (s_var 1) a_nil) (hlen := (len_cons len_nil))) (s_one (s_chain (o_le hr.units) (o_le hr.units) s_int (s_var 1) (s_var 0))))))
theorem fn_is_text (T : Txt w K mg) : FnAt P w K mg base 3 "is_text" 2 f_is_text [] := T.d_is_text.fn sc_is_text fun f cdv A outer s H E hr => (b_one (st_ret (s_and (s_isi .tTuple T.b_isinstance T.b_tuple (s_var 1) (by rfl)) (s_one (s_bl1 (b_all rfl) T.b_all (by rfl) (a_cons (s_comp [("own", 2)] rfl sc_is_text.nd (blkOk_by (N := ["wide", "thing", "own"]) (sc := defScope (top 8)) (by decide +kernel)) (i_seq false (s_var 1)) (fun j h => by first | simpa using h | (simp at h ⊢; omega)) (fun _ _ _ _ _ => (g_name 2 sc_is_text.nd)) (fun _ _ _ _ _ => ts_nil) (fun _ _ _ _ _ => (s_call (fn_is_letter T) (hr.mono (by decide)) takes0 (a_cons (s_var 0) (a_cons (s_var 2) a_nil)) (hlen := (len_cons (len_cons len_nil)))))) a_nil))))))
theorem fn_is_letters (T : Txt w K mg) : FnAt P w K mg base 4 "is_letters" 2 f_is_letters [] := T.d_is_letters.fn sc_is_letters fun f cdv A outer s H E hr => (b_one (st_ret (s_and (s_call (fn_is_text T) (hr.mono (by decide)) (takes_of rfl rfl rfl rfl) (a_cons (s_var 0) (a_cons (s_var 1) a_nil)) (hlen := (len_cons (len_cons len_nil)))) (s_and (s_cmp (o_ne hr.units) (s_var 1) (s_tup a_nil)) (s_one (s_bl1 (b_all rfl) T.b_all (by rfl) (a_cons (s_comp [("near", 2), ("far", 3)] rfl sc_is_letters.nd (blkOk_by (N := ["wide", "thing", "near", "far"]) (sc := defScope (top 9)) (by decide +kernel)) (i_zip false (a_cons (s_var 1) (a_cons (s_cut (s_var 1) (p_at s_int) p_no) a_nil)) T.b_zip) (fun j h => by first | simpa using h | (simp at h ⊢; omega)) (fun _ _ _ _ _ => (g_tup 2 rfl (gs_cons (g_name 2 sc_is_letters.nd) (gs_cons (g_name 3 sc_is_letters.nd) gs_nil)))) (fun _ _ _ _ _ => ts_nil) (fun _ _ _ _ _ => (s_cmp (o_lt hr.units) (s_var 2) (s_var 3)))) a_nil)))))))
theorem fn_is_tuple_of (T : Txt w K mg) : FnAt P w K mg base 1 "is_tuple_of" 2 f_is_tuple_of [] := T.d_is_tuple_of.fn sc_is_tuple_of fun f cdv A outer s H E hr => (b_one (st_ret (s_and (s_isi .tTuple T.b_isinstance T.b_tuple (s_var 0) (by rfl)) (s_one (s_cmp (o_eq hr.units) (s_bl1 b_lenA T.b_len (by rfl) (a_cons (s_var 0) a_nil)) (s_var 1))))))
theorem fn_is_ask (T : Txt w K mg) : FnAt P w K mg base 5 "is_ask" 2 f_is_ask [] := T.d_is_ask.fn sc_is_ask fun f cdv A outer s H E hr => (b_cons (st_if (SW.st (w_or (t_not (t_val (s_call (fn_is_tuple_of T) (hr.mono (by decide)) (takes_of rfl rfl rfl rfl) (a_cons (s_var 1) (a_cons s_int a_nil)) (hlen := (len_cons (len_cons len_nil)))))) (w_or (t_not (t_val (s_call (fn_is_number T) (hr.mono (by decide)) (takes_of rfl rfl rfl rfl) (a_cons (s_ixA (Room.u65 hr) (s_var 1) s_int) a_nil) (hlen := (len_cons len_nil))))) (w_or1 (t_cmp (o_lt hr.units) (s_ixA (Room.u65 hr) (s_var 1) s_int) s_int)))))
    (b_one (st_ret s_bl))
    b_nil)
  (b_one (st_ret (s_and (s_call (fn_is_side T) (hr.mono (by decide)) (takes_of rfl rfl rfl rfl) (a_cons (s_ixA (Room.u65 hr) (s_var 1) s_int) a_nil) (hlen := (len_cons len_nil))) (s_one (s_call (fn_is_letters T) (hr.mono (by decide)) (takes_of rfl rfl rfl rfl) (a_cons (s_var 0) (a_cons (s_ixA (Room.u65 hr) (s_var 1) s_int) a_nil)) (hlen := (len_cons (len_cons len_nil)))))))))
theorem fn_is_knot (T : Txt w K mg) : FnAt P w K mg base 6 "is_knot" 3 f_is_knot [] := T.d_is_knot.fn sc_is_knot fun f cdv A outer s H E hr => (b_cons (st_if (SW.st (w_or (t_not (t_val (s_isi .tTuple T.b_isinstance T.b_tuple (s_var 2) (by rfl)))) (w_or (t_cmp (o_lt hr.units) (s_bl1 b_lenA T.b_len (by rfl) (a_cons (s_var 2) a_nil)) s_int) (w_or1 (t_not (t_val (s_isi .tStr T.b_isinstance T.b_str (s_ixA (Room.u65 hr) (s_var 2) s_int) (by rfl))))))))
    (b_one (st_ret s_bl))
    b_nil)
  (b_cons (st_if (t_cmp (o_eq hr.units) (s_ixA (Room.u65 hr) (s_var 2) s_int) (s_str [115, 97, 121]))
    (b_one (st_ret (s_and (s_cmp (o_eq hr.units) (s_bl1 b_lenA T.b_len (by rfl) (a_cons (s_var 2) a_nil)) s_int) (s_one (s_isi .tBool T.b_isinstance T.b_bool (s_ixA (Room.u65 hr) (s_var 2) s_int) (by rfl))))))
    b_nil)
  (b_cons (st_if (t_cmp (o_eq hr.units) (s_ixA (Room.u65 hr) (s_var 2) s_int) (s_str [97, 115, 107]))
    (b_one (st_set sc_is_knot.nd rfl (.inl rfl) (s_and (s_cmp (o_eq hr.units) (s_bl1 b_lenA T.b_len (by rfl) (a_cons (s_var 2) a_nil)) s_int) (s_one (s_call (fn_is_ask T) (hr.mono (by decide)) (takes_of rfl rfl rfl rfl) (a_cons (s_var 0) (a_cons (s_cut (s_var 2) (p_at s_int) (p_at s_int)) a_nil)) (hlen := (len_cons (len_cons len_nil))))))))
    (b_cons (st_set sc_is_knot.nd rfl (.inl rfl) (s_and (s_cmp (o_eq hr.units) (s_ixA (Room.u65 hr) (s_var 2) s_int) (s_str [111, 114, 100, 101, 114])) (s_and (s_cmp (o_eq hr.units) (s_bl1 b_lenA T.b_len (by rfl) (a_cons (s_var 2) a_nil)) s_int) (s_one (s_bl1 (b_all rfl) T.b_all (by rfl) (a_cons (s_comp [("own", 4)] rfl sc_is_knot.nd (blkOk_by (N := ["wide", "many", "thing", "fine", "own"]) (sc := defScope (top 22)) (by decide +kernel)) (i_seq false (s_cut (s_var 2) (p_at s_int) (p_at s_int))) (fun j h => by first | simpa using h | (simp at h ⊢; omega)) (fun _ _ _ _ _ => (g_name 4 sc_is_knot.nd)) (fun _ _ _ _ _ => ts_nil) (fun _ _ _ _ _ => (s_and (s_call (fn_is_number T) (hr.mono (by decide)) takes0 (a_cons (s_var 4) a_nil) (hlen := (len_cons len_nil))) (s_one (s_cmp (o_ge hr.units) (s_var 4) s_int))))) a_nil))))))
    (b_one (st_set sc_is_knot.nd rfl (.inl rfl) (s_and (s_var 3) (s_one (s_cmp (o_ne hr.units) (s_ixA (Room.u65 hr) (s_var 2) s_int) (s_ixA (Room.u65 hr) (s_var 2) s_int))))))))
  (b_one (st_ret (s_and (s_var 3) (s_one (s_bl1 (b_all rfl) T.b_all (by rfl) (a_cons (s_comp [("own", 4)] rfl sc_is_knot.nd (blkOk_by (N := ["wide", "many", "thing", "fine", "own"]) (sc := defScope (top 22)) (by decide +kernel)) (i_seq false (s_call (fn_next_knots T) (hr.mono (by decide)) (takes_of rfl rfl rfl rfl) (a_cons (s_var 2) a_nil) (hlen := (len_cons len_nil)))) (fun j h => by first | simpa using h | (simp at h ⊢; omega)) (fun _ _ _ _ _ => (g_name 4 sc_is_knot.nd)) (fun _ _ _ _ _ => ts_nil) (fun _ _ _ _ _ => (s_and (s_call (fn_is_number T) (hr.mono (by decide)) takes0 (a_cons (s_var 4) a_nil) (hlen := (len_cons len_nil))) (s_one (s_chain (o_lt hr.units) (o_lt hr.units) s_int (s_var 4) (s_var 1)))))) a_nil)))))))))
theorem fn_spots_of (T : Txt w K mg) : FnAt P w K mg base 1 "spots_of" 1 f_spots_of [] := T.d_spots_of.fn sc_spots_of fun f cdv A outer s H E hr => (b_one (st_ret (s_ixA (Room.u65 hr) (s_disp (pp_cons (s_str [115, 97, 121]) (s_tup a_nil) (pp_cons (s_str [97, 115, 107]) (s_cut (s_var 0) (p_at s_int) (p_at s_int)) (pp_cons (s_str [111, 114, 100, 101, 114]) (s_cut (s_var 0) (p_at s_int) (p_at s_int)) pp_nil))) (ppl_cons (ppl_cons (ppl_cons ppl_nil)))) (s_ixA (Room.u65 hr) (s_var 0) s_int))))
theorem fn_is_tree (T : Txt w K mg) : FnAt P w K mg base 7 "is_tree" 2 f_is_tree [(["thing", "wide"], [1, 0])] := T.d_is_tree.fn sc_is_tree fun f cdv A outer s H E hr => (b_cons (st_if (SW.st (w_or (t_not (t_val (s_isi .tTuple T.b_isinstance T.b_tuple (s_var 1) (by rfl)))) (w_or (t_cmp (o_eq hr.units) (s_bl1 b_lenA T.b_len (by rfl) (a_cons (s_var 1) a_nil)) s_int) (w_or1 (t_not (t_val (s_bl1 (b_all rfl) T.b_all (by rfl) (a_cons (s_comp [("own", 7)] rfl sc_is_tree.nd (blkOk_by (N := ["wide", "thing", "ahead", "number", "knot", "many", "later", "own"]) (sc := defScope (top 24)) (by decide +kernel)) (i_seq false (s_var 1)) (fun j h => by first | simpa using h | (simp at h ⊢; omega)) (fun _ _ _ _ _ => (g_name 7 sc_is_tree.nd)) (fun _ _ _ _ _ => ts_nil) (fun _ _ _ _ _ => (s_call (fn_is_knot T) (hr.mono (by decide)) takes0 (a_cons (s_var 0) (a_cons (s_bl1 b_lenA T.b_len (by rfl) (a_cons (s_var 1) a_nil)) (a_cons (s_var 7) a_nil))) (hlen := (len_cons (len_cons (len_cons len_nil))))))) a_nil))))))))
    (b_one (st_ret s_bl))
    b_nil)
  (b_cons (st_var sc_is_tree.nd rfl (.inr rfl) (s_bin o_mul (s_lst (a_cons s_non a_nil)) (s_bl1 b_lenA T.b_len (by rfl) (a_cons (s_var 1) a_nil))))
  (b_cons (st_put 2 s_int s_int)
  (b_cons (st_for (passes_of rfl) rfl (i_enum true (a_cons (s_var 1) a_nil) T.b_enumerate) (g_tup 2 rfl (gs_cons (g_name 3 sc_is_tree.nd) (gs_cons (g_name 4 sc_is_tree.nd) gs_nil)))
    (b_cons (st_if (SW.st (w_or (t_cmp o_is (s_ixA (Room.u65 hr) (s_var 2) (s_var 3)) s_non) (w_or1 (t_not (t_val (s_bl1 (b_all rfl) T.b_all (by rfl) (a_cons (s_comp [("own", 7)] rfl sc_is_tree.nd (blkOk_by (N := ["wide", "thing", "ahead", "number", "knot", "many", "later", "own"]) (sc := defScope (top 24)) (by decide +kernel)) (i_seq false (s_call (fn_spots_of T) (hr.mono (by decide)) (takes_of rfl rfl rfl rfl) (a_cons (s_var 4) a_nil) (hlen := (len_cons len_nil)))) (fun j h => by first | simpa using h | (simp at h ⊢; omega)) (fun _ _ _ _ _ => (g_name 7 sc_is_tree.nd)) (fun _ _ _ _ _ => ts_nil) (fun _ _ _ _ _ => (s_cmp (o_lt hr.units) (s_var 7) (s_bin o_add (s_ixA (Room.u65 hr) (s_var 2) (s_var 3)) s_int)))) a_nil)))))))
      (b_one (st_ret s_bl))
      b_nil)
    (b_cons (st_set sc_is_tree.nd rfl (.inl rfl) (s_bin o_add (s_ixA (Room.u65 hr) (s_var 2) (s_var 3)) (s_ty1 b_int T.b_int (by rfl) (a_cons (s_cmp (o_eq hr.units) (s_ixA (Room.u65 hr) (s_var 4) s_int) (s_str [97, 115, 107])) a_nil))))
    (b_one (st_for (passes_of rfl) rfl (i_seq true (s_call (fn_next_knots T) (hr.mono (by decide)) (takes_of rfl rfl rfl rfl) (a_cons (s_var 4) a_nil) (hlen := (len_cons len_nil)))) (g_name 6 sc_is_tree.nd)
      (b_cons (st_if (SW.st (w_or (t_cmp (o_le hr.units) (s_var 6) (s_var 3)) (w_or1 (SW.st (w_and (t_cmp (o_ne hr.units) (s_ixA (Room.u65 hr) (s_ixA (Room.u65 hr) (s_var 1) (s_var 6)) s_int) (s_str [115, 97, 121])) (w_and1 (t_cmp (o_notinA (Room.u65 hr)) (s_ixA (Room.u65 hr) (s_var 2) (s_var 6)) (s_tup (a_cons s_non (a_cons (s_var 5) a_nil))))))))))
        (b_one (st_ret s_bl))
        b_nil)
      (b_one (st_put 2 (s_var 6) (s_var 5)))))))))
  (b_one (st_ret s_bl))))))
theorem fn_manners (T : Txt w K mg) : FnAt P w K mg base 14 "manners" 1 f_manners [] := T.d_manners.fn sc_manners fun f cdv A outer s H E hr => (b_cons (st_set sc_manners.nd rfl (.inr rfl) (s_comp [("knot", 2)] rfl sc_manners.nd (blkOk_by (N := ["tree", "sides", "knot", "word", "side"]) (sc := defScope (top 27)) (by decide +kernel)) (i_seq false (s_call (fn_tuple_of T 12) (hr.mono (by decide)) (takes_of rfl rfl rfl rfl) (a_cons (s_var 0) a_nil) (hlen := (len_cons len_nil)))) (fun j h => by first | simpa using h | (simp at h ⊢; omega)) (fun _ _ _ _ _ => (g_name 2 sc_manners.nd)) (fun _ _ _ _ _ => (ts_one (t_cmp (o_eq hr.units) (s_ixA (Room.u65 hr) (s_var 2) s_int) (s_str [97, 115, 107])))) (fun _ _ _ _ _ => (s_ixA (Room.u65 hr) (s_var 2) s_int))))
  (b_one (st_ret (s_ty1 b_tup T.b_tuple (by rfl) (a_cons (s_comp [("word", 3), ("side", 4)] rfl sc_manners.nd (blkOk_by (N := ["tree", "sides", "knot", "word", "side"]) (sc := defScope (top 27)) (by decide +kernel)) (i_seq false (s_tup (a_cons (s_tup (a_cons (s_str [98, 97, 99, 107, 119, 97, 114, 100]) (a_cons (s_str [110, 101, 120, 116]) a_nil))) (a_cons (s_tup (a_cons (s_str [111, 110, 119, 97, 114, 100]) (a_cons (s_str [108, 97, 115, 116]) a_nil))) a_nil)))) (fun j h => by first | simpa using h | (simp at h ⊢; omega)) (fun _ _ _ _ _ => (g_tup 2 rfl (gs_cons (g_name 3 sc_manners.nd) (gs_cons (g_name 4 sc_manners.nd) gs_nil)))) (fun _ _ _ _ _ => (ts_one (t_cmp (o_notinA (Room.u65 hr)) (s_var 4) (s_var 1)))) (fun _ _ _ _ _ => (s_var 3))) a_nil)))))
theorem fn__law_lists (T : Txt w K mg) : ∀ k : Nat, FnAt P w K mg base (1 + k) "_law_lists" 1 (f__law_lists k) []
  | 0 => T.d__law_lists.fn sc__law_lists fun f cdv A outer s H E hr => b_never
  | k + 1 => T.d__law_lists.fn sc__law_lists fun f cdv A outer s H E hr => (b_one (st_ret (s_if (t_val (s_isi2 .tList .tTuple T.b_isinstance T.b_list T.b_tuple (s_var 0) (by rfl) (by rfl))) (s_comp [("own", 1)] rfl sc__law_lists.nd (blkOk_by (N := ["matter", "own"]) (sc := defScope (top 45)) (by decide +kernel)) (i_seq false (s_var 0)) (fun j h => by first | simpa using h | (simp at h ⊢; omega)) (fun _ _ _ _ _ => (g_name 1 sc__law_lists.nd)) (fun _ _ _ _ _ => ts_nil) (fun _ _ _ _ _ => (s_call (fn__law_lists T k) hr takes0 (a_cons (s_var 1) a_nil) (hlen := (len_cons len_nil))))) (s_var 0))))
theorem fn__law_things_right (T : Txt w K mg) : FnAt P w K mg base 16 "_law_things_right" 0 f__law_things_right [] := T.d__law_things_right.fn sc__law_things_right fun f cdv A outer s H E hr => (b_cons (st_asg (s_tup (a_cons (s_call0 (fn__law_early T) (hr.mono (by decide)) (takes_of rfl rfl rfl rfl)) (a_cons (s_call0 (fn__law_some T) (hr.mono (by decide)) (takes_of rfl rfl rfl rfl)) (a_cons (s_tup (a_cons (s_str [115, 97, 121]) (a_cons s_bl a_nil))) (a_cons (s_tup (a_cons (s_str [115, 97, 121]) (a_cons s_bl a_nil))) a_nil))))) (g_tup 4 rfl (gs_cons (g_name 0 sc__law_things_right.nd) (gs_cons (g_name 1 sc__law_things_right.nd) (gs_cons (g_name 2 sc__law_things_right.nd) (gs_cons (g_name 3 sc__law_things_right.nd) gs_nil))))))
  (b_cons (st_var sc__law_things_right.nd rfl (.inl rfl) (s_lst (a_cons (s_var 0) (a_cons (s_var 1) (a_cons (s_tup (a_cons (s_var 2) a_nil)) (a_cons (s_tup (a_cons (s_var 3) a_nil)) (a_cons (s_tup (a_cons (s_tup (a_cons (s_str [111, 114, 100, 101, 114]) (a_cons s_int (a_cons s_int (a_cons s_int (a_cons s_int (a_cons s_int a_nil))))))) (a_cons (s_var 2) a_nil))) (a_cons (s_tup (a_cons (s_tup (a_cons (s_str [111, 114, 100, 101, 114]) (a_cons s_int (a_cons s_int (a_cons s_int (a_cons s_int (a_cons s_int a_nil))))))) (a_cons (s_var 2) (a_cons (s_var 3) a_nil)))) a_nil))))))))
  (b_cons (st_mut F.slot_list_append (by rfl) m_app 4 (a_cons (s_tup (a_cons (s_tup (a_cons (s_str [111, 114, 100, 101, 114]) (a_cons s_int (a_cons s_int (a_cons s_int (a_cons s_int (a_cons s_int a_nil))))))) (a_cons (s_tup (a_cons (s_str [97, 115, 107]) (a_cons s_int (a_cons (s_str [110, 101, 120, 116]) (a_cons (s_tup (a_cons s_int (a_cons s_int a_nil))) (a_cons s_int a_nil)))))) (a_cons (s_var 2) a_nil)))) a_nil))
  (b_cons (st_var sc__law_things_right.nd rfl (.inl rfl) (s_lst (a_cons (s_tup a_nil) (a_cons s_non (a_cons (s_str [115, 97, 121]) (a_cons (s_tup (a_cons (s_str [115, 97, 121]) (a_cons s_bl a_nil))) (a_cons (s_lst (a_cons (s_var 2) a_nil)) (a_cons (s_tup (a_cons (s_ty1 b_lst T.b_list (by rfl) (a_cons (s_var 2) a_nil)) a_nil)) (a_cons (s_tup (a_cons (s_tup (a_cons (s_str [115, 97, 121]) (a_cons s_int a_nil))) a_nil)) (a_cons (s_tup (a_cons (s_tup (a_cons (s_str [115, 97, 121]) a_nil)) a_nil)) (a_cons (s_tup (a_cons (s_tup (a_cons (s_str [115, 97, 121]) (a_cons s_bl (a_cons s_bl a_nil)))) a_nil)) (a_cons (s_tup (a_cons (s_var 2) (a_cons (s_var 3) a_nil))) (a_cons (s_tup (a_cons (s_tup (a_cons (s_str [116, 101, 108, 108]) (a_cons s_bl a_nil))) a_nil)) a_nil)))))))))))))
  (b_cons (st_var sc__law_things_right.nd rfl (.inl rfl) (s_bin o_add (s_var 5) (s_lst (a_cons (s_tup (a_cons (s_tup (a_cons (s_str [97, 115, 107]) (a_cons s_int (a_cons (s_str [110, 101, 120, 116]) (a_cons (s_tup (a_cons s_int a_nil)) (a_cons s_int a_nil)))))) (a_cons (s_var 2) a_nil))) (a_cons (s_tup (a_cons (s_tup (a_cons (s_str [97, 115, 107]) (a_cons s_int (a_cons (s_str [110, 101, 120, 116]) (a_cons (s_tup (a_cons s_int a_nil)) (a_cons s_int a_nil)))))) (a_cons (s_var 2) a_nil))) (a_cons (s_tup (a_cons (s_tup (a_cons (s_str [97, 115, 107]) (a_cons s_int (a_cons (s_str [110, 101, 120, 116]) (a_cons (s_tup a_nil) (a_cons s_int a_nil)))))) (a_cons (s_var 2) a_nil))) a_nil))))))
  (b_cons (st_var sc__law_things_right.nd rfl (.inl rfl) (s_bin o_add (s_var 5) (s_lst (a_cons (s_tup (a_cons (s_tup (a_cons (s_str [97, 115, 107]) (a_cons s_int (a_cons (s_str [110, 101, 120, 116]) (a_cons (s_tup (a_cons s_int (a_cons s_int a_nil))) (a_cons s_int a_nil)))))) (a_cons (s_var 2) a_nil))) (a_cons (s_tup (a_cons (s_tup (a_cons (s_str [97, 115, 107]) (a_cons s_int (a_cons (s_str [110, 101, 120, 116]) (a_cons (s_tup (a_cons s_int (a_cons s_int a_nil))) (a_cons s_int a_nil)))))) (a_cons (s_var 2) a_nil))) (a_cons (s_tup (a_cons (s_tup (a_cons (s_str [97, 115, 107]) (a_cons s_int (a_cons (s_str [110, 101, 120, 116]) (a_cons (s_tup (a_cons s_int (a_cons s_int a_nil))) (a_cons s_int a_nil)))))) (a_cons (s_var 2) a_nil))) a_nil))))))
  (b_cons (st_var sc__law_things_right.nd rfl (.inl rfl) (s_bin o_add (s_var 5) (s_lst (a_cons (s_tup (a_cons (s_tup (a_cons (s_str [97, 115, 107]) (a_cons s_int (a_cons (s_str [110, 101, 120, 116]) (a_cons (s_lst (a_cons s_int a_nil)) (a_cons s_int a_nil)))))) (a_cons (s_var 2) a_nil))) (a_cons (s_tup (a_cons (s_tup (a_cons (s_str [97, 115, 107]) (a_cons s_int (a_cons (s_str [111, 110]) (a_cons (s_tup (a_cons s_int a_nil)) (a_cons s_int a_nil)))))) (a_cons (s_var 2) a_nil))) (a_cons (s_tup (a_cons (s_tup (a_cons (s_str [97, 115, 107]) (a_cons s_int (a_cons (s_str [110, 101, 120, 116]) (a_cons (s_tup (a_cons s_int a_nil)) (a_cons s_int a_nil)))))) (a_cons (s_var 2) a_nil))) a_nil))))))
  (b_cons (st_var sc__law_things_right.nd rfl (.inl rfl) (s_bin o_add (s_var 5) (s_lst (a_cons (s_tup (a_cons (s_tup (a_cons (s_str [97, 115, 107]) (a_cons (s_neg s_int) (a_cons (s_str [110, 101, 120, 116]) (a_cons (s_tup (a_cons s_int a_nil)) (a_cons s_int a_nil)))))) (a_cons (s_var 2) a_nil))) (a_cons (s_tup (a_cons (s_tup (a_cons (s_str [97, 115, 107]) (a_cons s_bl (a_cons (s_str [110, 101, 120, 116]) (a_cons (s_tup (a_cons s_int a_nil)) (a_cons s_int a_nil)))))) (a_cons (s_var 2) a_nil))) (a_cons (s_tup (a_cons (s_tup (a_cons (s_str [97, 115, 107]) (a_cons s_int (a_cons (s_str [110, 101, 120, 116]) (a_cons (s_tup (a_cons s_bl a_nil)) (a_cons s_int a_nil)))))) (a_cons (s_var 2) a_nil))) a_nil))))))
  (b_cons (st_var sc__law_things_right.nd rfl (.inl rfl) (s_bin o_add (s_var 5) (s_lst (a_cons (s_tup (a_cons (s_tup (a_cons (s_str [97, 115, 107]) (a_cons s_int (a_cons (s_str [110, 101, 120, 116]) (a_cons (s_tup (a_cons s_int a_nil)) (a_cons s_bl a_nil)))))) (a_cons (s_var 2) a_nil))) (a_cons (s_tup (a_cons (s_tup (a_cons (s_str [97, 115, 107]) (a_cons s_int (a_cons (s_str [110, 101, 120, 116]) (a_cons (s_tup (a_cons s_int a_nil)) a_nil))))) (a_cons (s_var 2) a_nil))) (a_cons (s_tup (a_cons (s_tup (a_cons (s_str [97, 115, 107]) (a_cons s_int (a_cons (s_str [110, 101, 120, 116]) (a_cons s_int (a_cons s_int a_nil)))))) (a_cons (s_var 2) a_nil))) a_nil))))))
  (b_cons (st_var sc__law_things_right.nd rfl (.inl rfl) (s_bin o_add (s_var 5) (s_lst (a_cons (s_tup (a_cons (s_tup (a_cons (s_str [111, 114, 100, 101, 114]) (a_cons s_int (a_cons s_int (a_cons s_int (a_cons s_int (a_cons s_int a_nil))))))) (a_cons (s_var 2) a_nil))) (a_cons (s_tup (a_cons (s_tup (a_cons (s_str [111, 114, 100, 101, 114]) (a_cons s_int (a_cons s_int (a_cons s_int (a_cons s_int (a_cons s_int a_nil))))))) (a_cons (s_var 2) a_nil))) (a_cons (s_tup (a_cons (s_tup (a_cons (s_str [111, 114, 100, 101, 114]) (a_cons s_int (a_cons s_int (a_cons s_int (a_cons s_int a_nil)))))) (a_cons (s_var 2) a_nil))) (a_cons (s_tup (a_cons (s_tup (a_cons (s_str [111, 114, 100, 101, 114]) (a_cons s_int (a_cons s_int (a_cons s_int (a_cons s_int (a_cons s_int (a_cons s_int a_nil)))))))) (a_cons (s_var 2) a_nil))) a_nil)))))))
  (b_cons (st_var sc__law_things_right.nd rfl (.inl rfl) (s_bin o_add (s_var 5) (s_lst (a_cons (s_tup (a_cons (s_tup (a_cons (s_str [111, 114, 100, 101, 114]) (a_cons s_int (a_cons s_int (a_cons s_int (a_cons s_int (a_cons s_int a_nil))))))) (a_cons (s_var 2) a_nil))) (a_cons (s_tup (a_cons (s_tup (a_cons (s_str [111, 114, 100, 101, 114]) (a_cons (s_neg s_int) (a_cons s_int (a_cons s_int (a_cons s_int (a_cons s_int a_nil))))))) (a_cons (s_var 2) a_nil))) (a_cons (s_tup (a_cons (s_tup (a_cons (s_str [111, 114, 100, 101, 114]) (a_cons s_int (a_cons s_int (a_cons s_int (a_cons s_int (a_cons s_int a_nil))))))) (a_cons (s_var 2) a_nil))) a_nil))))))
  (b_cons (st_mut F.slot_list_append (by rfl) m_app 5 (a_cons (s_tup (a_cons (s_tup (a_cons (s_str [111, 114, 100, 101, 114]) (a_cons s_int (a_cons s_int (a_cons s_int (a_cons s_int (a_cons s_int a_nil))))))) (a_cons (s_tup (a_cons (s_str [97, 115, 107]) (a_cons s_int (a_cons (s_str [110, 101, 120, 116]) (a_cons (s_tup (a_cons s_int a_nil)) (a_cons s_int a_nil)))))) (a_cons (s_tup (a_cons (s_str [111, 114, 100, 101, 114]) (a_cons s_int (a_cons s_int (a_cons s_int (a_cons s_int (a_cons s_int a_nil))))))) (a_cons (s_var 2) a_nil))))) a_nil))
  (b_cons (st_mut F.slot_list_append (by rfl) m_app 5 (a_cons (s_tup (a_cons (s_tup (a_cons (s_str [97, 115, 107]) (a_cons s_int (a_cons (s_str [110, 101, 120, 116]) (a_cons (s_tup (a_cons s_int a_nil)) (a_cons s_int a_nil)))))) (a_cons (s_var 2) (a_cons (s_var 3) a_nil)))) a_nil))
  (b_cons (st_set sc__law_things_right.nd rfl (.inl rfl) (s_lst (a_cons (s_comp [("own", 8)] rfl sc__law_things_right.nd (blkOk_by (N := ["early", "some", "yes", "no", "goods", "bads", "got", "due", "own"]) (sc := defScope (top 48)) (by decide +kernel)) (i_seq false (s_var 4)) (fun j h => by first | simpa using h | (simp at h ⊢; omega)) (fun _ _ _ _ _ => (g_name 8 sc__law_things_right.nd)) (fun _ _ _ _ _ => ts_nil) (fun _ _ _ _ _ => (s_call (fn_is_tree T) (hr.mono (by decide)) takes0 (a_cons s_int (a_cons (s_var 8) a_nil)) (hlen := (len_cons (len_cons len_nil)))))) (a_cons (s_comp [("own", 8)] rfl sc__law_things_right.nd (blkOk_by (N := ["early", "some", "yes", "no", "goods", "bads", "got", "due", "own"]) (sc := defScope (top 48)) (by decide +kernel)) (i_seq false (s_var 5)) (fun j h => by first | simpa using h | (simp at h ⊢; omega)) (fun _ _ _ _ _ => (g_name 8 sc__law_things_right.nd)) (fun _ _ _ _ _ => ts_nil) (fun _ _ _ _ _ => (s_call (fn_is_tree T) (hr.mono (by decide)) takes0 (a_cons s_int (a_cons (s_var 8) a_nil)) (hlen := (len_cons (len_cons len_nil)))))) (a_cons (s_callK (fn_is_tree T) (hr.mono (by decide)) (takes_of rfl rfl rfl rfl) ["thing", "wide"] [1, 0] (by simp) (sk_cons (s_var 0) (sk_cons s_int sk_nil)) 2) a_nil)))))
  (b_cons (st_set sc__law_things_right.nd rfl (.inl rfl) (s_bin o_add (s_var 6) (s_lst (a_cons (s_call (fn_is_tree T) (hr.mono (by decide)) (takes_of rfl rfl rfl rfl) (a_cons s_int (a_cons (s_var 0) a_nil)) (hlen := (len_cons (len_cons len_nil)))) (a_cons (s_call (fn_is_tree T) (hr.mono (by decide)) (takes_of rfl rfl rfl rfl) (a_cons s_int (a_cons (s_var 0) a_nil)) (hlen := (len_cons (len_cons len_nil)))) a_nil)))))
  (b_cons (st_var sc__law_things_right.nd rfl (.inl rfl) (s_lst (a_cons (s_bin o_mul (s_lst (a_cons s_bl a_nil)) s_int) (a_cons (s_bin o_mul (s_lst (a_cons s_bl a_nil)) s_int) (a_cons s_bl (a_cons s_bl (a_cons s_bl a_nil)))))))
  (b_cons (st_set sc__law_things_right.nd rfl (.inl rfl) (s_bin o_add (s_var 6) (s_lst (a_cons (s_call (fn_asks_ahead T) (hr.mono (by decide)) (takes_of rfl rfl rfl rfl) (a_cons (s_ixA (Room.u65 hr) (s_var 4) s_int) a_nil) (hlen := (len_cons len_nil))) (a_cons (s_call (fn_depth T) (hr.mono (by decide)) (takes_of rfl rfl rfl rfl) (a_cons (s_ixA (Room.u65 hr) (s_var 4) s_int) a_nil) (hlen := (len_cons len_nil))) (a_cons (s_comp [("own", 8)] rfl sc__law_things_right.nd (blkOk_by (N := ["early", "some", "yes", "no", "goods", "bads", "got", "due", "own"]) (sc := defScope (top 48)) (by decide +kernel)) (i_seq false (s_var 4)) (fun j h => by first | simpa using h | (simp at h ⊢; omega)) (fun _ _ _ _ _ => (g_name 8 sc__law_things_right.nd)) (fun _ _ _ _ _ => ts_nil) (fun _ _ _ _ _ => (s_call (fn_manners T) (hr.mono (by decide)) takes0 (a_cons (s_var 8) a_nil) (hlen := (len_cons len_nil))))) a_nil))))))
  (b_cons (st_set sc__law_things_right.nd rfl (.inl rfl) (s_bin o_add (s_var 6) (s_lst (a_cons (s_callK (fn_asks_ahead T) (hr.mono (by decide)) (takes_of rfl rfl rfl rfl) ["tree"] [0] (by simp) (sk_cons (s_call (fn__law_lists T 12) (hr.mono (by decide)) (takes_of rfl rfl rfl rfl) (a_cons (s_var 0) a_nil) (hlen := (len_cons len_nil))) sk_nil) 1) (a_cons (s_callK (fn_depth T) (hr.mono (by decide)) (takes_of rfl rfl rfl rfl) ["tree"] [0] (by simp) (sk_cons (s_var 0) sk_nil) 1) a_nil)))))
  (b_cons (st_var sc__law_things_right.nd rfl (.inl rfl) (s_bin o_add (s_var 7) (s_lst (a_cons (s_tup (a_cons s_int (a_cons s_int (a_cons s_int a_nil)))) (a_cons s_int (a_cons (s_lst (a_cons (s_tup a_nil) (a_cons (s_tup (a_cons (s_str [98, 97, 99, 107, 119, 97, 114, 100]) a_nil)) (a_cons (s_tup (a_cons (s_str [98, 97, 99, 107, 119, 97, 114, 100]) (a_cons (s_str [111, 110, 119, 97, 114, 100]) a_nil))) (a_cons (s_tup (a_cons (s_str [98, 97, 99, 107, 119, 97, 114, 100]) (a_cons (s_str [111, 110, 119, 97, 114, 100]) a_nil))) a_nil))))) (a_cons (s_tup (a_cons s_int (a_cons s_int (a_cons s_int (a_cons s_int (a_cons s_int a_nil)))))) (a_cons s_int a_nil))))))))
  (b_cons (st_put 7 s_int (s_bin o_add (s_ixA (Room.u65 hr) (s_var 7) s_int) (s_lst (a_cons (s_tup (a_cons (s_str [98, 97, 99, 107, 119, 97, 114, 100]) (a_cons (s_str [111, 110, 119, 97, 114, 100]) a_nil))) (a_cons (s_tup (a_cons (s_str [98, 97, 99, 107, 119, 97, 114, 100]) (a_cons (s_str [111, 110, 119, 97, 114, 100]) a_nil))) (a_cons (s_tup (a_cons (s_str [111, 110, 119, 97, 114, 100]) a_nil)) a_nil))))))
  (st_fz 7 (b_one (st_ret (s_call (fn__law_same T 12) (hr.mono (by decide)) (takes_of rfl rfl rfl rfl) (a_cons (s_var 6) (a_cons (s_var 7) a_nil)) (hlen := (len_cons (len_cons len_nil)))))))))))))))))))))))))))
theorem fn_answer (T : Txt w K mg) : FnAt P w K mg base 16 "answer" 2 f_answer [(["text", "tree"], [1, 0])] := T.d_answer.fn sc_answer fun f cdv A outer s H E hr => (b_one (st_ret (s_ixA (Room.u65 hr) (s_call (fn_run T) (hr.mono (by decide)) (takes_of rfl rfl rfl rfl) (a_cons (s_var 0) (a_cons (s_var 1) a_nil)) (hlen := (len_cons (len_cons len_nil)))) s_int)))
theorem fn_way_of (T : Txt w K mg) : FnAt P w K mg base 15 "way_of" 2 f_way_of [(["text", "tree"], [1, 0])] := T.d_way_of.fn sc_way_of fun f cdv A outer s H E hr => (b_one (st_ret (s_ixA (Room.u65 hr) (s_call (fn_gone T) (hr.mono (by decide)) (takes_of rfl rfl rfl rfl) (a_cons (s_var 0) (a_cons (s_var 1) a_nil)) (hlen := (len_cons (len_cons len_nil)))) s_int)))
theorem fn__law_runs_right (T : Txt w K mg) : FnAt P w K mg base 17 "_law_runs_right" 0 f__law_runs_right [] := T.d__law_runs_right.fn sc__law_runs_right fun f cdv A outer s H E hr => (b_cons (st_asg (s_tup (a_cons (s_call0 (fn__law_early T) (hr.mono (by decide)) (takes_of rfl rfl rfl rfl)) (a_cons (s_call0 (fn__law_some T) (hr.mono (by decide)) (takes_of rfl rfl rfl rfl)) a_nil))) (g_tup 2 rfl (gs_cons (g_name 0 sc__law_runs_right.nd) (gs_cons (g_name 1 sc__law_runs_right.nd) gs_nil))))
  (b_cons (st_set sc__law_runs_right.nd rfl (.inl rfl) (s_lst (a_cons (s_tup a_nil) (a_cons (s_tup (a_cons s_int a_nil)) (a_cons (s_tup (a_cons s_int a_nil)) (a_cons (s_tup (a_cons s_int (a_cons s_int a_nil))) (a_cons (s_tup (a_cons s_int (a_cons s_int (a_cons s_int a_nil)))) (a_cons (s_tup (a_cons s_int (a_cons s_int a_nil))) (a_cons (s_tup (a_cons s_int (a_cons s_int (a_cons s_int a_nil)))) a_nil)))))))))
  (b_cons (st_set sc__law_runs_right.nd rfl (.inl rfl) (s_lst (a_cons (s_comp [("own", 6)] rfl sc__law_runs_right.nd (blkOk_by (N := ["early", "some", "texts", "got", "due", "odd", "own"]) (sc := defScope (top 49)) (by decide +kernel)) (i_seq false (s_var 2)) (fun j h => by first | simpa using h | (simp at h ⊢; omega)) (fun _ _ _ _ _ => (g_name 6 sc__law_runs_right.nd)) (fun _ _ _ _ _ => ts_nil) (fun _ _ _ _ _ => (s_call (fn_run T) (hr.mono (by decide)) takes0 (a_cons (s_var 0) (a_cons (s_var 6) a_nil)) (hlen := (len_cons (len_cons len_nil)))))) (a_cons (s_comp [("own", 6)] rfl sc__law_runs_right.nd (blkOk_by (N := ["early", "some", "texts", "got", "due", "odd", "own"]) (sc := defScope (top 49)) (by decide +kernel)) (i_seq false (s_var 2)) (fun j h => by first | simpa using h | (simp at h ⊢; omega)) (fun _ _ _ _ _ => (g_name 6 sc__law_runs_right.nd)) (fun _ _ _ _ _ => ts_nil) (fun _ _ _ _ _ => (s_call (fn_answer T) (hr.mono (by decide)) takes0 (a_cons (s_var 1) (a_cons (s_var 6) a_nil)) (hlen := (len_cons (len_cons len_nil)))))) (a_cons (s_comp [("own", 6)] rfl sc__law_runs_right.nd (blkOk_by (N := ["early", "some", "texts", "got", "due", "odd", "own"]) (sc := defScope (top 49)) (by decide +kernel)) (i_seq false (s_var 2)) (fun j h => by first | simpa using h | (simp at h ⊢; omega)) (fun _ _ _ _ _ => (g_name 6 sc__law_runs_right.nd)) (fun _ _ _ _ _ => ts_nil) (fun _ _ _ _ _ => (s_call (fn_way_of T) (hr.mono (by decide)) takes0 (a_cons (s_var 0) (a_cons (s_var 6) a_nil)) (hlen := (len_cons (len_cons len_nil)))))) a_nil)))))
  (b_cons (st_var sc__law_runs_right.nd rfl (.inl rfl) (s_lst (a_cons (s_lst (a_cons (s_tup (a_cons (s_tup (a_cons s_int (a_cons s_int (a_cons s_int (a_cons s_int a_nil))))) (a_cons s_bl a_nil))) (a_cons (s_tup (a_cons (s_tup (a_cons s_int (a_cons s_int (a_cons s_int (a_cons s_int a_nil))))) (a_cons s_bl a_nil))) (a_cons (s_tup (a_cons (s_tup (a_cons s_int (a_cons s_int (a_cons s_int (a_cons s_int a_nil))))) (a_cons s_bl a_nil))) (a_cons (s_tup (a_cons (s_tup (a_cons s_int (a_cons s_int (a_cons s_int (a_cons s_int a_nil))))) (a_cons s_bl a_nil))) (a_cons (s_tup (a_cons (s_tup (a_cons s_int (a_cons s_int (a_cons s_int (a_cons s_int a_nil))))) (a_cons s_bl a_nil))) a_nil)))))) a_nil)))
  (b_cons (st_put 4 s_int (s_bin o_add (s_ixA (Room.u65 hr) (s_var 4) s_int) (s_lst (a_cons (s_tup (a_cons (s_tup (a_cons s_int (a_cons s_int (a_cons s_int (a_cons s_int a_nil))))) (a_cons s_bl a_nil))) (a_cons (s_tup (a_cons (s_tup (a_cons s_int (a_cons s_int (a_cons s_int (a_cons s_int a_nil))))) (a_cons s_bl a_nil))) a_nil)))))
  (b_cons (st_var sc__law_runs_right.nd rfl (.inl rfl) (s_bin o_add (s_var 4) (s_lst (a_cons (s_lst (a_cons s_bl (a_cons s_bl (a_cons s_bl (a_cons s_bl (a_cons s_bl (a_cons s_bl (a_cons s_bl a_nil)))))))) (a_cons (s_lst (a_cons (s_tup (a_cons s_int (a_cons s_int (a_cons s_int (a_cons s_int a_nil))))) (a_cons (s_tup (a_cons s_int (a_cons s_int (a_cons s_int (a_cons s_int a_nil))))) (a_cons (s_tup (a_cons s_int (a_cons s_int (a_cons s_int (a_cons s_int a_nil))))) (a_cons (s_tup (a_cons s_int (a_cons s_int (a_cons s_int (a_cons s_int a_nil))))) a_nil))))) a_nil)))))
  (b_cons (st_put 4 s_int (s_bin o_add (s_ixA (Room.u65 hr) (s_var 4) s_int) (s_lst (a_cons (s_tup (a_cons s_int (a_cons s_int (a_cons s_int (a_cons s_int a_nil))))) (a_cons (s_tup (a_cons s_int (a_cons s_int (a_cons s_int (a_cons s_int a_nil))))) (a_cons (s_tup (a_cons s_int (a_cons s_int (a_cons s_int (a_cons s_int a_nil))))) a_nil))))))
  (b_cons (st_set sc__law_runs_right.nd rfl (.inl rfl) (s_bin o_add (s_var 3) (s_lst (a_cons (s_callK (fn_run T) (hr.mono (by decide)) (takes_of rfl rfl rfl rfl) ["text", "tree"] [1, 0] (by simp) (sk_cons (s_lst (a_cons s_int (a_cons s_int a_nil))) (sk_cons (s_call (fn__law_lists T 12) (hr.mono (by decide)) (takes_of rfl rfl rfl rfl) (a_cons (s_var 0) a_nil) (hlen := (len_cons len_nil))) sk_nil)) 2) (a_cons (s_callK (fn_answer T) (hr.mono (by decide)) (takes_of rfl rfl rfl rfl) ["text", "tree"] [1, 0] (by simp) (sk_cons (s_lst (a_cons s_int a_nil)) (sk_cons (s_var 1) sk_nil)) 2) (a_cons (s_callK (fn_way_of T) (hr.mono (by decide)) (takes_of rfl rfl rfl rfl) ["text", "tree"] [1, 0] (by simp) (sk_cons (s_tup (a_cons s_int a_nil)) (sk_cons (s_call (fn__law_lists T 12) (hr.mono (by decide)) (takes_of rfl rfl rfl rfl) (a_cons (s_var 1) a_nil) (hlen := (len_cons len_nil))) sk_nil)) 2) a_nil))))))
  (b_cons (st_var sc__law_runs_right.nd rfl (.inl rfl) (s_bin o_add (s_var 4) (s_lst (a_cons (s_tup (a_cons (s_tup (a_cons s_int (a_cons s_int (a_cons s_int (a_cons s_int a_nil))))) (a_cons s_bl a_nil))) (a_cons s_bl (a_cons (s_tup (a_cons s_int (a_cons s_int (a_cons s_int a_nil)))) a_nil))))))
  (b_cons (st_set sc__law_runs_right.nd rfl (.inr rfl) (s_tup (a_cons (s_tup (a_cons (s_str [97, 115, 107]) (a_cons s_int (a_cons (s_str [110, 101, 120, 116]) (a_cons (s_tup (a_cons s_int (a_cons s_int a_nil))) (a_cons s_int a_nil)))))) (a_cons (s_tup (a_cons (s_str [97, 115, 107]) (a_cons s_int (a_cons (s_str [108, 97, 115, 116]) (a_cons (s_tup (a_cons s_int a_nil)) (a_cons s_int a_nil)))))) (a_cons (s_tup (a_cons (s_str [97, 115, 107]) (a_cons s_int (a_cons (s_str [110, 101, 120, 116]) (a_cons (s_tup (a_cons s_int (a_cons s_int a_nil))) (a_cons s_int a_nil)))))) (a_cons (s_tup (a_cons (s_str [97, 115, 107]) (a_cons s_int (a_cons (s_str [110, 101, 120, 116]) (a_cons (s_tup (a_cons s_int (a_cons s_int a_nil))) (a_cons s_int a_nil)))))) (a_cons (s_tup (a_cons (s_str [115, 97, 121]) (a_cons s_bl a_nil))) a_nil)))))))
  (b_cons (st_set sc__law_runs_right.nd rfl (.inl rfl) (s_bin o_add (s_var 3) (s_comp [("own", 6)] rfl sc__law_runs_right.nd (blkOk_by (N := ["early", "some", "texts", "got", "due", "odd", "own"]) (sc := defScope (top 49)) (by decide +kernel)) (i_seq false (s_tup (a_cons (s_tup a_nil) (a_cons (s_tup (a_cons s_int (a_cons s_int a_nil))) (a_cons (s_tup (a_cons s_int a_nil)) a_nil))))) (fun j h => by first | simpa using h | (simp at h ⊢; omega)) (fun _ _ _ _ _ => (g_name 6 sc__law_runs_right.nd)) (fun _ _ _ _ _ => ts_nil) (fun _ _ _ _ _ => (s_call (fn_run T) (hr.mono (by decide)) takes0 (a_cons (s_var 5) (a_cons (s_var 6) a_nil)) (hlen := (len_cons (len_cons len_nil))))))))
  (b_one (st_ret (s_call (fn__law_same T 12) (hr.mono (by decide)) (takes_of rfl rfl rfl rfl) (a_cons (s_var 3) (a_cons (s_bin o_add (s_var 4) (s_lst (a_cons (s_tup (a_cons (s_tup (a_cons s_int (a_cons s_int (a_cons s_int (a_cons s_int (a_cons s_int (a_cons s_int a_nil))))))) (a_cons s_bl a_nil))) (a_cons (s_tup (a_cons (s_tup (a_cons s_int (a_cons s_int (a_cons s_int (a_cons s_int (a_cons s_int (a_cons s_int a_nil))))))) (a_cons s_bl a_nil))) (a_cons (s_tup (a_cons (s_tup (a_cons s_int (a_cons s_int (a_cons s_int (a_cons s_int (a_cons s_int (a_cons s_int a_nil))))))) (a_cons s_bl a_nil))) a_nil))))) a_nil)) (hlen := (len_cons (len_cons len_nil)))))))))))))))))
theorem fn_far_name (T : Txt w K mg) : FnAt P w K mg base 1 "far_name" 4 f_far_name [] := T.d_far_name.fn sc_far_name fun f cdv A outer s H E hr => (b_one (st_ret (s_if (t_cmp (o_eq hr.units) (s_ixA (Room.u65 hr) (s_ixA (Room.u65 hr) (s_var 0) (s_var 1)) s_int) (s_str [115, 97, 121])) (s_tup (a_cons (s_str [115, 97, 121]) (a_cons (s_cmp (o_ne hr.units) (s_ixA (Room.u65 hr) (s_ixA (Room.u65 hr) (s_var 0) (s_var 1)) s_int) (s_var 3)) a_nil))) (s_tup (a_cons s_int (a_cons (s_var 1) (a_cons (s_var 2) (a_cons (s_var 3) a_nil))))))))
theorem fn_near_name (T : Txt w K mg) : FnAt P w K mg base 2 "near_name" 5 f_near_name [] := T.d_near_name.fn sc_near_name fun f cdv A outer s H E hr => (b_cons (st_if (t_cmp (o_ne hr.units) (s_ixA (Room.u65 hr) (s_ixA (Room.u65 hr) (s_var 0) (s_var 2)) s_int) (s_str [115, 97, 121]))
    (b_one (st_ret (s_tup (a_cons s_int (a_cons (s_var 2) a_nil)))))
    b_nil)
  (b_cons (st_set sc_near_name.nd rfl (.inl rfl) (s_ixA (Room.u65 hr) (s_ixA (Room.u65 hr) (s_var 0) (s_var 2)) s_int))
  (b_cons (st_if (t_cmp (o_eq hr.units) (s_var 5) (s_kdic T.c_WORDS (s_var 4)))
    (b_one (st_ret (s_tup (a_cons (s_str [115, 97, 121]) (a_cons (s_var 5) a_nil)))))
    b_nil)
  (b_one (st_ret (s_call (fn_far_name T) (hr.mono (by decide)) (takes_of rfl rfl rfl rfl) (a_cons (s_var 1) (a_cons s_int (a_cons (s_var 3) (a_cons (s_and (s_cmp (o_eq hr.units) (s_var 4) (s_str [117, 110, 108, 105, 107, 101])) (s_one (s_var 5))) a_nil)))) (hlen := (len_cons (len_cons (len_cons (len_cons len_nil)))))))))))
theorem fn_moved (T : Txt w K mg) : FnAt P w K mg base 1 "moved" 2 f_moved [] := T.d_moved.fn sc_moved fun f cdv A outer s H E hr => (b_cons (st_set sc_moved.nd rfl (.inr rfl) (s_ixA (Room.u65 hr) (s_disp (pp_cons (s_str [115, 97, 121]) (s_tup a_nil) (pp_cons (s_str [97, 115, 107]) (s_tup (a_cons s_int a_nil)) (pp_cons (s_str [111, 114, 100, 101, 114]) (s_tup (a_cons s_int (a_cons s_int a_nil))) pp_nil))) (ppl_cons (ppl_cons (ppl_cons ppl_nil)))) (s_ixA (Room.u65 hr) (s_var 0) s_int)))
  (b_one (st_ret (s_ty1 b_tup T.b_tuple (by rfl) (a_cons (s_comp [("place", 3), ("own", 4)] rfl sc_moved.nd (blkOk_by (N := ["knot", "many", "places", "place", "own"]) (sc := defScope (top 35)) (by decide +kernel)) (i_enum false (a_cons (s_var 0) a_nil) T.b_enumerate) (fun j h => by first | simpa using h | (simp at h ⊢; omega)) (fun _ _ _ _ _ => (g_tup 2 rfl (gs_cons (g_name 3 sc_moved.nd) (gs_cons (g_name 4 sc_moved.nd) gs_nil)))) (fun _ _ _ _ _ => ts_nil) (fun _ _ _ _ _ => (s_if (SW.st (w_and (t_cmp (o_inA (Room.u65 hr)) (s_var 3) (s_var 2)) (w_and1 (t_cmp (o_gt hr.units) (s_var 4) s_int)))) (s_bin o_add (s_var 4) (s_var 1)) (s_var 4)))) a_nil)))))
theorem fn_tree_joined (T : Txt w K mg) : FnAt P w K mg base 15 "tree_joined" 3 f_tree_joined [(["word", "other", "one"], [2, 1, 0])] := T.d_tree_joined.fn sc_tree_joined fun f cdv A outer s H E hr => (b_cons (st_parN 3 rfl sc_tree_joined.nd (NGs.cons 3 (NGs.cons 4 (NGs.cons 5 NGs.nil))) (SEs.cons (s_call (fn_tuple_of T 12) (hr.mono (by decide)) (takes_of rfl rfl rfl rfl) (a_cons (s_var 0) a_nil) (hlen := (len_cons len_nil))) (SEs.cons (s_call (fn_tuple_of T 12) (hr.mono (by decide)) (takes_of rfl rfl rfl rfl) (a_cons (s_var 1) a_nil) (hlen := (len_cons len_nil))) (SEs.cons s_dnew SEs.nil))))
  (b_cons (st_set sc_tree_joined.nd rfl (.inl rfl) (s_call (fn_near_name T) (hr.mono (by decide)) (takes_of rfl rfl rfl rfl) (a_cons (s_var 3) (a_cons (s_var 4) (a_cons s_int (a_cons s_int (a_cons (s_var 2) a_nil))))) (hlen := (len_cons (len_cons (len_cons (len_cons (len_cons len_nil))))))))
  (b_cons (st_var sc_tree_joined.nd rfl (.inl rfl) (s_lst (a_cons (s_var 6) a_nil)))
  (b_cons (st_while 100000 (passes_of rfl) (t_cmp (o_ne hr.units) (s_var 7) (s_lst a_nil))
    (b_cons (st_popG F.slot_list_pop (by rfl) 7 (g_name 8 sc_tree_joined.nd))
    (b_cons (st_if (t_cmp (o_inA (Room.u65 hr)) (s_var 8) (s_var 5))
      (b_one st_continue)
      b_nil)
    (b_cons (st_if (t_cmp (o_eq hr.units) (s_ixA (Room.u65 hr) (s_var 8) s_int) (s_str [115, 97, 121]))
      (b_cons (st_putD (Room.u65 hr) 5 (s_var 8) (s_tup (a_cons s_int (a_cons (s_var 8) a_nil))))
      (b_one st_continue))
      b_nil)
    (b_cons (st_if (t_cmp (o_eq hr.units) (s_ixA (Room.u65 hr) (s_var 8) s_int) s_int)
      (b_cons (st_par2 rfl sc_tree_joined.nd rfl rfl (by decide) rfl rfl (a_cons (s_ixA (Room.u65 hr) (s_call (fn_asks_ahead T) (hr.mono (by decide)) (takes_of rfl rfl rfl rfl) (a_cons (s_var 3) a_nil) (hlen := (len_cons len_nil))) (s_ixA (Room.u65 hr) (s_var 8) s_int)) (a_cons (s_ixA (Room.u65 hr) (s_var 3) (s_ixA (Room.u65 hr) (s_var 8) s_int)) a_nil)) (by rfl))
      (b_cons (st_set sc_tree_joined.nd rfl (.inr rfl) (s_bin o_add (s_var 9) (s_ty1 b_int T.b_int (by rfl) (a_cons (s_cmp (o_eq hr.units) (s_ixA (Room.u65 hr) (s_var 10) s_int) (s_str [97, 115, 107])) a_nil))))
      (b_one (st_setLc [("own", 13)] rfl sc_tree_joined.nd (blkOk_by (N := ["one", "other", "word", "near", "far", "knots", "top", "left", "name", "ahead", "knot", "many", "later", "own"]) (sc := defScope (top 38)) (by decide +kernel)) rfl rfl (sw_true rfl rfl rfl (by decide +kernel)) (i_seq false (s_call (fn_next_knots T) (hr.mono (by decide)) (takes_of rfl rfl rfl rfl) (a_cons (s_var 10) a_nil) (hlen := (len_cons len_nil)))) (fun j h => by first | simpa using h | (simp at h ⊢; omega)) (fun _ _ _ _ _ => (g_name 13 sc_tree_joined.nd)) (fun _ _ _ _ _ => ts_nil) (fun _ _ _ _ _ => (s_call (fn_near_name T) (hr.mono (by decide)) takes0 (a_cons (s_var 3) (a_cons (s_var 4) (a_cons (s_var 13) (a_cons (s_var 11) (a_cons (s_var 2) a_nil))))) (hlen := (len_cons (len_cons (len_cons (len_cons (len_cons len_nil))))))))))))
      (b_cons (st_par2 rfl sc_tree_joined.nd rfl rfl (by decide) rfl rfl (a_cons (s_bin o_add (s_ixA (Room.u65 hr) (s_var 8) s_int) (s_ixA (Room.u65 hr) (s_call (fn_asks_ahead T) (hr.mono (by decide)) (takes_of rfl rfl rfl rfl) (a_cons (s_var 4) a_nil) (hlen := (len_cons len_nil))) (s_ixA (Room.u65 hr) (s_var 8) s_int))) (a_cons (s_call (fn_moved T) (hr.mono (by decide)) (takes_of rfl rfl rfl rfl) (a_cons (s_ixA (Room.u65 hr) (s_var 4) (s_ixA (Room.u65 hr) (s_var 8) s_int)) (a_cons (s_ixA (Room.u65 hr) (s_var 8) s_int) a_nil)) (hlen := (len_cons (len_cons len_nil)))) a_nil)) (by rfl))
      (b_one (st_setLc [("own", 13)] rfl sc_tree_joined.nd (blkOk_by (N := ["one", "other", "word", "near", "far", "knots", "top", "left", "name", "ahead", "knot", "many", "later", "own"]) (sc := defScope (top 38)) (by decide +kernel)) rfl rfl (sw_true rfl rfl rfl (by decide +kernel)) (i_seq false (s_call (fn_next_knots T) (hr.mono (by decide)) (takes_of rfl rfl rfl rfl) (a_cons (s_var 10) a_nil) (hlen := (len_cons len_nil)))) (fun j h => by first | simpa using h | (simp at h ⊢; omega)) (fun _ _ _ _ _ => (g_name 13 sc_tree_joined.nd)) (fun _ _ _ _ _ => ts_nil) (fun _ _ _ _ _ => (s_call (fn_far_name T) (hr.mono (by decide)) takes0 (a_cons (s_var 4) (a_cons (s_var 13) (a_cons (s_ixA (Room.u65 hr) (s_var 8) s_int) (a_cons (s_ixA (Room.u65 hr) (s_var 8) s_int) a_nil)))) (hlen := (len_cons (len_cons (len_cons (len_cons len_nil)))))))))))
    (b_cons (st_putD (Room.u65 hr) 5 (s_var 8) (s_tup (a_cons (s_var 9) (a_cons (s_call (fn_with_next T) (hr.mono (by decide)) (takes_of rfl rfl rfl rfl) (a_cons (s_var 10) (a_cons (s_var 12) a_nil)) (hlen := (len_cons (len_cons len_nil)))) a_nil))))
    (b_one (st_mut F.slot_list_extend (by rfl) m_ext 7 (a_cons (s_var 12) a_nil)))))))))
  (st_fz 5 (b_one (st_ret (s_call (fn_numbered T) (hr.mono (by decide)) (takes_of rfl rfl rfl rfl) (a_cons (s_var 5) (a_cons (s_var 6) a_nil)) (hlen := (len_cons (len_cons len_nil)))))))))))
theorem fn_tree_contrary (T : Txt w K mg) : FnAt P w K mg base 14 "tree_contrary" 1 f_tree_contrary [(["tree"], [0])] := T.d_tree_contrary.fn sc_tree_contrary fun f cdv A outer s H E hr => (b_one (st_ret (s_ty1 b_tup T.b_tuple (by rfl) (a_cons (s_comp [("knot", 1)] rfl sc_tree_contrary.nd (blkOk_by (N := ["tree", "knot"]) (sc := defScope (top 39)) (by decide +kernel)) (i_seq false (s_call (fn_tuple_of T 12) (hr.mono (by decide)) (takes_of rfl rfl rfl rfl) (a_cons (s_var 0) a_nil) (hlen := (len_cons len_nil)))) (fun j h => by first | simpa using h | (simp at h ⊢; omega)) (fun _ _ _ _ _ => (g_name 1 sc_tree_contrary.nd)) (fun _ _ _ _ _ => ts_nil) (fun _ _ _ _ _ => (s_if (t_cmp (o_eq hr.units) (s_ixA (Room.u65 hr) (s_var 1) s_int) (s_str [115, 97, 121])) (s_tup (a_cons (s_str [115, 97, 121]) (a_cons (s_not (s_ixA (Room.u65 hr) (s_var 1) s_int)) a_nil))) (s_var 1)))) a_nil))))
theorem fn__law_made_right (T : Txt w K mg) : FnAt P w K mg base 16 "_law_made_right" 0 f__law_made_right [] := T.d__law_made_right.fn sc__law_made_right fun f cdv A outer s H E hr => (b_cons (st_asg (s_tup (a_cons (s_call0 (fn__law_early T) (hr.mono (by decide)) (takes_of rfl rfl rfl rfl)) (a_cons (s_call0 (fn__law_some T) (hr.mono (by decide)) (takes_of rfl rfl rfl rfl)) (a_cons (s_tup (a_cons (s_str [115, 97, 121]) (a_cons s_bl a_nil))) (a_cons (s_tup (a_cons (s_str [115, 97, 121]) (a_cons s_bl a_nil))) a_nil))))) (g_tup 4 rfl (gs_cons (g_name 0 sc__law_made_right.nd) (gs_cons (g_name 1 sc__law_made_right.nd) (gs_cons (g_name 2 sc__law_made_right.nd) (gs_cons (g_name 3 sc__law_made_right.nd) gs_nil))))))
  (b_cons (st_set sc__law_made_right.nd rfl (.inl rfl) (s_lst (a_cons (s_call (fn_shared T) (hr.mono (by decide)) (takes_of rfl rfl rfl rfl) (a_cons (s_var 0) a_nil) (hlen := (len_cons len_nil))) (a_cons (s_call (fn_shared T) (hr.mono (by decide)) (takes_of rfl rfl rfl rfl) (a_cons (s_var 1) a_nil) (hlen := (len_cons len_nil))) (a_cons (s_call (fn_shared T) (hr.mono (by decide)) (takes_of rfl rfl rfl rfl) (a_cons (s_tup (a_cons (s_tup (a_cons (s_str [111, 114, 100, 101, 114]) (a_cons s_int (a_cons s_int (a_cons s_int (a_cons s_int (a_cons s_int a_nil))))))) (a_cons (s_var 2) (a_cons (s_var 2) a_nil)))) a_nil) (hlen := (len_cons len_nil))) (a_cons (s_call (fn_shared T) (hr.mono (by decide)) (takes_of rfl rfl rfl rfl) (a_cons (s_tup (a_cons (s_var 3) a_nil)) a_nil) (hlen := (len_cons len_nil))) (a_cons (s_callK (fn_shared T) (hr.mono (by decide)) (takes_of rfl rfl rfl rfl) ["tree"] [0] (by simp) (sk_cons (s_call (fn__law_lists T 12) (hr.mono (by decide)) (takes_of rfl rfl rfl rfl) (a_cons (s_var 1) a_nil) (hlen := (len_cons len_nil))) sk_nil) 1) a_nil)))))))
  (b_cons (st_var sc__law_made_right.nd rfl (.inl rfl) (s_lst (a_cons (s_var 0) (a_cons (s_var 1) (a_cons (s_tup (a_cons (s_tup (a_cons (s_str [111, 114, 100, 101, 114]) (a_cons s_int (a_cons s_int (a_cons s_int (a_cons s_int (a_cons s_int a_nil))))))) (a_cons (s_var 2) a_nil))) (a_cons (s_tup (a_cons (s_var 3) a_nil)) (a_cons (s_var 1) a_nil)))))))
  (b_cons (st_set sc__law_made_right.nd rfl (.inl rfl) (s_bin o_add (s_var 4) (s_lst (a_cons (s_call (fn_tree_contrary T) (hr.mono (by decide)) (takes_of rfl rfl rfl rfl) (a_cons (s_var 1) a_nil) (hlen := (len_cons len_nil))) (a_cons (s_call (fn_tree_mirrored T) (hr.mono (by decide)) (takes_of rfl rfl rfl rfl) (a_cons (s_var 1) a_nil) (hlen := (len_cons len_nil))) (a_cons (s_callK (fn_tree_contrary T) (hr.mono (by decide)) (takes_of rfl rfl rfl rfl) ["tree"] [0] (by simp) (sk_cons (s_lst (a_cons (s_ty1 b_lst T.b_list (by rfl) (a_cons (s_var 2) a_nil)) a_nil)) sk_nil) 1) (a_cons (s_callK (fn_tree_mirrored T) (hr.mono (by decide)) (takes_of rfl rfl rfl rfl) ["tree"] [0] (by simp) (sk_cons (s_call (fn__law_lists T 12) (hr.mono (by decide)) (takes_of rfl rfl rfl rfl) (a_cons (s_var 0) a_nil) (hlen := (len_cons len_nil))) sk_nil) 1) a_nil)))))))
  (b_cons (st_var sc__law_made_right.nd rfl (.inl rfl) (s_bin o_add (s_var 5) (s_lst (a_cons (s_bin o_add (s_cut (s_var 1) p_no (p_at s_int)) (s_tup (a_cons (s_var 3) (a_cons (s_var 2) a_nil)))) (a_cons (s_tup (a_cons (s_tup (a_cons (s_str [97, 115, 107]) (a_cons s_int (a_cons (s_str [110, 101, 120, 116]) (a_cons (s_tup (a_cons s_int a_nil)) (a_cons s_int a_nil)))))) (a_cons (s_tup (a_cons (s_str [111, 114, 100, 101, 114]) (a_cons s_int (a_cons s_int (a_cons s_int (a_cons s_int (a_cons s_int a_nil))))))) (a_cons (s_var 2) (a_cons (s_var 3) a_nil))))) (a_cons (s_tup (a_cons (s_var 3) a_nil)) a_nil))))))
  (b_cons (st_mut F.slot_list_append (by rfl) m_app 5 (a_cons (s_tup (a_cons (s_tup (a_cons (s_str [97, 115, 107]) (a_cons s_int (a_cons (s_str [108, 97, 115, 116]) (a_cons (s_tup (a_cons s_int a_nil)) (a_cons s_int a_nil)))))) (a_cons (s_tup (a_cons (s_str [97, 115, 107]) (a_cons s_int (a_cons (s_str [110, 101, 120, 116]) (a_cons (s_tup (a_cons s_int a_nil)) (a_cons s_int a_nil)))))) (a_cons (s_tup (a_cons (s_str [111, 114, 100, 101, 114]) (a_cons s_int (a_cons s_int (a_cons s_int (a_cons s_int (a_cons s_int a_nil))))))) (a_cons (s_var 3) (a_cons (s_var 2) a_nil)))))) a_nil))
  (b_cons (st_set sc__law_made_right.nd rfl (.inl rfl) (s_bin o_add (s_var 4) (s_lst (a_cons (s_call (fn_tree_joined T) (hr.mono (by decide)) (takes_of rfl rfl rfl rfl) (a_cons (s_tup (a_cons (s_var 2) a_nil)) (a_cons (s_var 1) (a_cons (s_str [98, 111, 116, 104]) a_nil))) (hlen := (len_cons (len_cons (len_cons len_nil))))) (a_cons (s_call (fn_tree_joined T) (hr.mono (by decide)) (takes_of rfl rfl rfl rfl) (a_cons (s_tup (a_cons (s_var 2) a_nil)) (a_cons (s_var 1) (a_cons (s_str [101, 105, 116, 104, 101, 114]) a_nil))) (hlen := (len_cons (len_cons (len_cons len_nil))))) (a_cons (s_call (fn_tree_joined T) (hr.mono (by decide)) (takes_of rfl rfl rfl rfl) (a_cons (s_tup (a_cons (s_var 2) a_nil)) (a_cons (s_var 1) (a_cons (s_str [117, 110, 108, 105, 107, 101]) a_nil))) (hlen := (len_cons (len_cons (len_cons len_nil))))) a_nil))))))
  (b_cons (st_var sc__law_made_right.nd rfl (.inl rfl) (s_bin o_add (s_var 5) (s_lst (a_cons (s_var 1) (a_cons (s_tup (a_cons (s_var 2) a_nil)) (a_cons (s_bin o_add (s_cut (s_var 1) p_no (p_at s_int)) (s_tup (a_cons (s_var 3) (a_cons (s_var 2) a_nil)))) a_nil))))))
  (b_cons (st_set sc__law_made_right.nd rfl (.inl rfl) (s_bin o_add (s_var 4) (s_lst (a_cons (s_call (fn_tree_joined T) (hr.mono (by decide)) (takes_of rfl rfl rfl rfl) (a_cons (s_tup (a_cons (s_var 3) a_nil)) (a_cons (s_var 1) (a_cons (s_str [98, 111, 116, 104]) a_nil))) (hlen := (len_cons (len_cons (len_cons len_nil))))) (a_cons (s_call (fn_tree_joined T) (hr.mono (by decide)) (takes_of rfl rfl rfl rfl) (a_cons (s_tup (a_cons (s_var 3) a_nil)) (a_cons (s_var 1) (a_cons (s_str [101, 105, 116, 104, 101, 114]) a_nil))) (hlen := (len_cons (len_cons (len_cons len_nil))))) a_nil)))))
  (b_cons (st_set sc__law_made_right.nd rfl (.inl rfl) (s_bin o_add (s_var 4) (s_lst (a_cons (s_call (fn_tree_joined T) (hr.mono (by decide)) (takes_of rfl rfl rfl rfl) (a_cons (s_var 1) (a_cons (s_tup (a_cons (s_var 3) a_nil)) (a_cons (s_str [117, 110, 108, 105, 107, 101]) a_nil))) (hlen := (len_cons (len_cons (len_cons len_nil))))) (a_cons (s_call (fn_tree_joined T) (hr.mono (by decide)) (takes_of rfl rfl rfl rfl) (a_cons (s_var 1) (a_cons (s_tup (a_cons (s_var 3) a_nil)) (a_cons (s_str [98, 111, 116, 104]) a_nil))) (hlen := (len_cons (len_cons (len_cons len_nil))))) a_nil)))))
  (b_cons (st_var sc__law_made_right.nd rfl (.inl rfl) (s_bin o_add (s_var 5) (s_lst (a_cons (s_tup (a_cons (s_var 3) a_nil)) (a_cons (s_var 1) (a_cons (s_var 1) (a_cons (s_tup (a_cons (s_ixA (Room.u65 hr) (s_var 1) s_int) (a_cons (s_tup (a_cons (s_str [111, 114, 100, 101, 114]) (a_cons s_int (a_cons s_int (a_cons s_int (a_cons s_int (a_cons s_int a_nil))))))) (a_cons (s_var 3) a_nil)))) a_nil)))))))
  (b_cons (st_set sc__law_made_right.nd rfl (.inr rfl) (s_callK (fn_tree_joined T) (hr.mono (by decide)) (takes_of rfl rfl rfl rfl) ["word", "other", "one"] [2, 1, 0] (by simp) (sk_cons (s_str [98, 111, 116, 104]) (sk_cons (s_call (fn__law_lists T 12) (hr.mono (by decide)) (takes_of rfl rfl rfl rfl) (a_cons (s_var 1) a_nil) (hlen := (len_cons len_nil))) (sk_cons (s_call (fn__law_lists T 12) (hr.mono (by decide)) (takes_of rfl rfl rfl rfl) (a_cons (s_var 0) a_nil) (hlen := (len_cons len_nil))) sk_nil))) 3))
  (b_cons (st_set sc__law_made_right.nd rfl (.inl rfl) (s_bin o_add (s_var 4) (s_lst (a_cons (s_cut (s_var 6) (p_at s_int) p_no) (a_cons (s_comp [("own", 7)] rfl sc__law_made_right.nd (blkOk_by (N := ["early", "some", "yes", "no", "got", "due", "two", "own"]) (sc := defScope (top 50)) (by decide +kernel)) (i_seq false (s_tup (a_cons (s_tup (a_cons s_int (a_cons s_int a_nil))) (a_cons (s_tup (a_cons s_int (a_cons s_int a_nil))) (a_cons (s_tup (a_cons s_int a_nil)) a_nil))))) (fun j h => by first | simpa using h | (simp at h ⊢; omega)) (fun _ _ _ _ _ => (g_name 7 sc__law_made_right.nd)) (fun _ _ _ _ _ => ts_nil) (fun _ _ _ _ _ => (s_call (fn_run T) (hr.mono (by decide)) takes0 (a_cons (s_var 6) (a_cons (s_var 7) a_nil)) (hlen := (len_cons (len_cons len_nil)))))) a_nil)))))
  (b_cons (st_var sc__law_made_right.nd rfl (.inl rfl) (s_bin o_add (s_var 5) (s_lst (a_cons (s_tup (a_cons (s_tup (a_cons (s_str [97, 115, 107]) (a_cons s_int (a_cons (s_str [108, 97, 115, 116]) (a_cons (s_tup (a_cons s_int a_nil)) (a_cons s_int a_nil)))))) (a_cons (s_tup (a_cons (s_str [111, 114, 100, 101, 114]) (a_cons s_int (a_cons s_int (a_cons s_int (a_cons s_int (a_cons s_int a_nil))))))) (a_cons (s_var 3) (a_cons (s_var 2) a_nil))))) (a_cons (s_lst (a_cons (s_tup (a_cons (s_tup (a_cons s_int (a_cons s_int (a_cons s_int (a_cons s_int (a_cons s_int a_nil)))))) (a_cons s_bl a_nil))) (a_cons (s_tup (a_cons (s_tup (a_cons s_int (a_cons s_int (a_cons s_int (a_cons s_int (a_cons s_int a_nil)))))) (a_cons s_bl a_nil))) (a_cons (s_tup (a_cons (s_tup (a_cons s_int (a_cons s_int (a_cons s_int (a_cons s_int a_nil))))) (a_cons s_bl a_nil))) a_nil)))) a_nil)))))
  (st_fz 5 (b_one (st_ret (s_call (fn__law_same T 12) (hr.mono (by decide)) (takes_of rfl rfl rfl rfl) (a_cons (s_var 4) (a_cons (s_var 5) a_nil)) (hlen := (len_cons (len_cons len_nil)))))))))))))))))))))
theorem fn__law_cells (T : Txt w K mg) : FnAt P w K mg base 1 "_law_cells" 2 f__law_cells [] := T.d__law_cells.fn sc__law_cells fun f cdv A outer s H E hr => (b_cons (st_var sc__law_cells.nd rfl (.inl rfl) (s_orT (s_ty1 b_lst T.b_list (by rfl) (a_cons (s_cut (s_var 0) p_no (p_at (s_var 1))) a_nil)) (s_one (s_lst (a_cons s_int a_nil)))))
  (b_cons (st_for (passes_of rfl) rfl (i_enum true (a_cons (s_cut (s_var 0) (p_at (s_var 1)) (p_at s_int)) a_nil) T.b_enumerate) (g_tup 2 rfl (gs_cons (g_name 3 sc__law_cells.nd) (gs_cons (g_name 4 sc__law_cells.nd) gs_nil)))
    (b_cons (st_set sc__law_cells.nd rfl (.inl rfl) (s_bin o_mod (s_ty1 b_int T.b_int (by rfl) (a_cons (s_var 3) a_nil)) (s_var 1)))
    (b_one (st_put 2 (s_var 5) (s_bin o_add (s_ixA (Room.u65 hr) (s_var 2) (s_var 5)) (s_bin o_mul (s_var 4) (s_bin o_add (s_var 3) s_int)))))))
  (st_fz 2 (b_one (st_ret (s_var 2))))))
theorem all_mk {l : PySem.W.OpenLaw} {w : World} {K : PySem.W.Frag} {h : Heap} {mg : Str → Option Value} {fa : Addr} (X : K.In h) (G : h.Ns mainGlobals mg) (hfa : mg "law" = some (.ref fa))
    {g0 g1 g2 g3 g4 g5 g6 g7 g8 g9 g10 g11 g12 g13 g14 g15 g16 g17 g18 g19 g20 g21 g22 g23 g24 g25 g26 g27 g28 g29 g30 g31 g32 g33 g34 g35 g36 g37 g38 g39 g40 g41 g42 g43 : Addr} {od0 an0 od1 an1 od2 an2 od3 an3 od4 an4 od5 an5 od6 an6 od7 an7 od8 an8 od9 an9 od10 an10 od11 an11 od12 an12 od13 an13 od14 an14 od15 an15 od16 an16 od17 an17 od18 an18 od19 an19 od20 an20 od21 an21 od22 an22 od23 an23 od24 an24 od25 an25 od26 an26 od27 an27 od28 an28 od29 an29 od30 an30 od31 an31 od32 an32 od33 an33 od34 an34 od35 an35 od36 an36 od37 an37 od38 an38 od39 an39 od40 an40 od41 an41 od42 an42 od43 an43 : Option Addr} {sl0 sl1 sl2 sl3 sl4 sl5 sl6 sl7 sl8 sl9 sl10 sl11 sl12 sl13 sl14 sl15 sl16 sl17 sl18 sl19 sl20 sl21 sl22 sl23 sl24 sl25 sl26 sl27 sl28 sl29 sl30 sl31 sl32 sl33 sl34 sl35 sl36 sl37 sl38 sl39 sl40 sl41 sl42 sl43 : Array (Option Value)} {oc0 kV0 dc0 pm0 cd0 ct0 oc1 kV1 dc1 pm1 cd1 ct1 oc2 kV2 dc2 pm2 cd2 ct2 oc3 kV3 dc3 pm3 cd3 ct3 oc4 kV4 dc4 pm4 cd4 ct4 oc5 kV5 dc5 pm5 cd5 ct5 oc6 kV6 dc6 pm6 cd6 ct6 oc7 kV7 dc7 pm7 cd7 ct7 oc8 kV8 dc8 pm8 cd8 ct8 oc9 kV9 dc9 pm9 cd9 ct9 oc10 kV10 dc10 pm10 cd10 ct10 oc11 kV11 dc11 pm11 cd11 ct11 oc12 kV12 dc12 pm12 cd12 ct12 oc13 kV13 dc13 pm13 cd13 ct13 oc14 kV14 dc14 pm14 cd14 ct14 oc15 kV15 dc15 pm15 cd15 ct15 oc16 kV16 dc16 pm16 cd16 ct16 oc17 kV17 dc17 pm17 cd17 ct17 oc18 kV18 dc18 pm18 cd18 ct18 oc19 kV19 dc19 pm19 cd19 ct19 oc20 kV20 dc20 pm20 cd20 ct20 oc21 kV21 dc21 pm21 cd21 ct21 oc22 kV22 dc22 pm22 cd22 ct22 oc23 kV23 dc23 pm23 cd23 ct23 oc24 kV24 dc24 pm24 cd24 ct24 oc25 kV25 dc25 pm25 cd25 ct25 oc26 kV26 dc26 pm26 cd26 ct26 oc27 kV27 dc27 pm27 cd27 ct27 oc28 kV28 dc28 pm28 cd28 ct28 oc29 kV29 dc29 pm29 cd29 ct29 oc30 kV30 dc30 pm30 cd30 ct30 oc31 kV31 dc31 pm31 cd31 ct31 oc32 kV32 dc32 pm32 cd32 ct32 oc33 kV33 dc33 pm33 cd33 ct33 oc34 kV34 dc34 pm34 cd34 ct34 oc35 kV35 dc35 pm35 cd35 ct35 oc36 kV36 dc36 pm36 cd36 ct36 oc37 kV37 dc37 pm37 cd37 ct37 oc38 kV38 dc38 pm38 cd38 ct38 oc39 kV39 dc39 pm39 cd39 ct39 oc40 kV40 dc40 pm40 cd40 ct40 oc41 kV41 dc41 pm41 cd41 ct41 oc42 kV42 dc42 pm42 cd42 ct42 oc43 kV43 dc43 pm43 cd43 ct43 : Value} {cg_SIDES : Addr} {cx_SIDES : Array Value} {cn_SIDES : Nat} {cd_SIDES : Option Addr} {cs_SIDES : Array (Option Value)} {cg_WORDS : Addr} {ces_WORDS : Array DictEntry} {cn_WORDS : Nat} {cu_WORDS_0 cu_WORDS_1 cu_WORDS_2 : Value}
    (a0 : PySem.W.nsIn K mainGlobals "_law_same" = some (some (.ref g0))) (l0 : K.lookup g0 = some ⟨oc0, od0, .func (PySem.W.fnOf "_law_same" "_law_same" (defArgs (top 44)) (defBody (top 44)) (defScope (top 44)) .none kV0 dc0 pm0 an0 cd0 ct0), sl0⟩) (c0 : PySem.W.codeIn K cd0 "_law_same" = true) (k0 : PySem.W.keepIn K (.ref g0) = true)
    (a1 : PySem.W.nsIn K mainGlobals "_law_early" = some (some (.ref g1))) (l1 : K.lookup g1 = some ⟨oc1, od1, .func (PySem.W.fnOf "_law_early" "_law_early" (defArgs (top 46)) (defBody (top 46)) (defScope (top 46)) .none kV1 dc1 pm1 an1 cd1 ct1), sl1⟩) (c1 : PySem.W.codeIn K cd1 "_law_early" = true) (k1 : PySem.W.keepIn K (.ref g1) = true)
    (a2 : PySem.W.nsIn K mainGlobals "_law_some" = some (some (.ref g2))) (l2 : K.lookup g2 = some ⟨oc2, od2, .func (PySem.W.fnOf "_law_some" "_law_some" (defArgs (top 47)) (defBody (top 47)) (defScope (top 47)) .none kV2 dc2 pm2 an2 cd2 ct2), sl2⟩) (c2 : PySem.W.codeIn K cd2 "_law_some" = true) (k2 : PySem.W.keepIn K (.ref g2) = true)
    (a3 : PySem.W.nsIn K mainGlobals "tuple_of" = some (some (.ref g3))) (l3 : K.lookup g3 = some ⟨oc3, od3, .func (PySem.W.fnOf "tuple_of" "tuple_of" (defArgs (top 2)) (defBody (top 2)) (defScope (top 2)) .none kV3 dc3 pm3 an3 cd3 ct3), sl3⟩) (c3 : PySem.W.codeIn K cd3 "tuple_of" = true) (k3 : PySem.W.keepIn K (.ref g3) = true)
    (a4 : PySem.W.nsIn K mainGlobals "is_number" = some (some (.ref g4))) (l4 : K.lookup g4 = some ⟨oc4, od4, .func (PySem.W.fnOf "is_number" "is_number" (defArgs (top 1)) (defBody (top 1)) (defScope (top 1)) .none kV4 dc4 pm4 an4 cd4 ct4), sl4⟩) (c4 : PySem.W.codeIn K cd4 "is_number" = true) (k4 : PySem.W.keepIn K (.ref g4) = true)
    (a5 : PySem.W.nsIn K mainGlobals "sure_place" = some (some (.ref g5))) (l5 : K.lookup g5 = some ⟨oc5, od5, .func (PySem.W.fnOf "sure_place" "sure_place" (defArgs (top 10)) (defBody (top 10)) (defScope (top 10)) .none kV5 dc5 pm5 an5 cd5 ct5), sl5⟩) (c5 : PySem.W.codeIn K cd5 "sure_place" = true) (k5 : PySem.W.keepIn K (.ref g5) = true)
    (a6 : PySem.W.nsIn K mainGlobals "next_place" = some (some (.ref g6))) (l6 : K.lookup g6 = some ⟨oc6, od6, .func (PySem.W.fnOf "next_place" "next_place" (defArgs (top 11)) (defBody (top 11)) (defScope (top 11)) .none kV6 dc6 pm6 an6 cd6 ct6), sl6⟩) (c6 : PySem.W.codeIn K cd6 "next_place" = true) (k6 : PySem.W.keepIn K (.ref g6) = true)
    (a7 : PySem.W.nsIn K mainGlobals "last_place" = some (some (.ref g7))) (l7 : K.lookup g7 = some ⟨oc7, od7, .func (PySem.W.fnOf "last_place" "last_place" (defArgs (top 12)) (defBody (top 12)) (defScope (top 12)) .none kV7 dc7 pm7 an7 cd7 ct7), sl7⟩) (c7 : PySem.W.codeIn K cd7 "last_place" = true) (k7 : PySem.W.keepIn K (.ref g7) = true)
    (a8 : PySem.W.nsIn K mainGlobals "found" = some (some (.ref g8))) (l8 : K.lookup g8 = some ⟨oc8, od8, .func (PySem.W.fnOf "found" "found" (defArgs (top 17)) (defBody (top 17)) (defScope (top 17)) .none kV8 dc8 pm8 an8 cd8 ct8), sl8⟩) (c8 : PySem.W.codeIn K cd8 "found" = true) (k8 : PySem.W.keepIn K (.ref g8) = true)
    (a9 : PySem.W.nsIn K mainGlobals "gone" = some (some (.ref g9))) (l9 : K.lookup g9 = some ⟨oc9, od9, .func (PySem.W.fnOf "gone" "gone" (defArgs (top 28)) (defBody (top 28)) (defScope (top 28)) .none kV9 dc9 pm9 an9 cd9 ct9), sl9⟩) (c9 : PySem.W.codeIn K cd9 "gone" = true) (k9 : PySem.W.keepIn K (.ref g9) = true)
    (a10 : PySem.W.nsIn K mainGlobals "run" = some (some (.ref g10))) (l10 : K.lookup g10 = some ⟨oc10, od10, .func (PySem.W.fnOf "run" "run" (defArgs (top 29)) (defBody (top 29)) (defScope (top 29)) .none kV10 dc10 pm10 an10 cd10 ct10), sl10⟩) (c10 : PySem.W.codeIn K cd10 "run" = true) (k10 : PySem.W.keepIn K (.ref g10) = true)
    (a11 : PySem.W.nsIn K mainGlobals "next_knots" = some (some (.ref g11))) (l11 : K.lookup g11 = some ⟨oc11, od11, .func (PySem.W.fnOf "next_knots" "next_knots" (defArgs (top 20)) (defBody (top 20)) (defScope (top 20)) .none kV11 dc11 pm11 an11 cd11 ct11), sl11⟩) (c11 : PySem.W.codeIn K cd11 "next_knots" = true) (k11 : PySem.W.keepIn K (.ref g11) = true)
    (a12 : PySem.W.nsIn K mainGlobals "asks_ahead" = some (some (.ref g12))) (l12 : K.lookup g12 = some ⟨oc12, od12, .func (PySem.W.fnOf "asks_ahead" "asks_ahead" (defArgs (top 25)) (defBody (top 25)) (defScope (top 25)) .none kV12 dc12 pm12 an12 cd12 ct12), sl12⟩) (c12 : PySem.W.codeIn K cd12 "asks_ahead" = true) (k12 : PySem.W.keepIn K (.ref g12) = true)
    (a13 : PySem.W.nsIn K mainGlobals "depth" = some (some (.ref g13))) (l13 : K.lookup g13 = some ⟨oc13, od13, .func (PySem.W.fnOf "depth" "depth" (defArgs (top 26)) (defBody (top 26)) (defScope (top 26)) .none kV13 dc13 pm13 an13 cd13 ct13), sl13⟩) (c13 : PySem.W.codeIn K cd13 "depth" = true) (k13 : PySem.W.keepIn K (.ref g13) = true)
    (a14 : PySem.W.nsIn K mainGlobals "with_next" = some (some (.ref g14))) (l14 : K.lookup g14 = some ⟨oc14, od14, .func (PySem.W.fnOf "with_next" "with_next" (defArgs (top 21)) (defBody (top 21)) (defScope (top 21)) .none kV14 dc14 pm14 an14 cd14 ct14), sl14⟩) (c14 : PySem.W.codeIn K cd14 "with_next" = true) (k14 : PySem.W.keepIn K (.ref g14) = true)
    (a15 : PySem.W.nsIn K mainGlobals "merged" = some (some (.ref g15))) (l15 : K.lookup g15 = some ⟨oc15, od15, .func (PySem.W.fnOf "merged" "merged" (defArgs (top 32)) (defBody (top 32)) (defScope (top 32)) .none kV15 dc15 pm15 an15 cd15 ct15), sl15⟩) (c15 : PySem.W.codeIn K cd15 "merged" = true) (k15 : PySem.W.keepIn K (.ref g15) = true)
    (a16 : PySem.W.nsIn K mainGlobals "numbered" = some (some (.ref g16))) (l16 : K.lookup g16 = some ⟨oc16, od16, .func (PySem.W.fnOf "numbered" "numbered" (defArgs (top 33)) (defBody (top 33)) (defScope (top 33)) .none kV16 dc16 pm16 an16 cd16 ct16), sl16⟩) (c16 : PySem.W.codeIn K cd16 "numbered" = true) (k16 : PySem.W.keepIn K (.ref g16) = true)
    (a17 : PySem.W.nsIn K mainGlobals "shared" = some (some (.ref g17))) (l17 : K.lookup g17 = some ⟨oc17, od17, .func (PySem.W.fnOf "shared" "shared" (defArgs (top 34)) (defBody (top 34)) (defScope (top 34)) .none kV17 dc17 pm17 an17 cd17 ct17), sl17⟩) (c17 : PySem.W.codeIn K cd17 "shared" = true) (k17 : PySem.W.keepIn K (.ref g17) = true)
    (a18 : PySem.W.nsIn K mainGlobals "mirrored_knot" = some (some (.ref g18))) (l18 : K.lookup g18 = some ⟨oc18, od18, .func (PySem.W.fnOf "mirrored_knot" "mirrored_knot" (defArgs (top 40)) (defBody (top 40)) (defScope (top 40)) .none kV18 dc18 pm18 an18 cd18 ct18), sl18⟩) (c18 : PySem.W.codeIn K cd18 "mirrored_knot" = true) (k18 : PySem.W.keepIn K (.ref g18) = true)
    (a19 : PySem.W.nsIn K mainGlobals "tree_mirrored" = some (some (.ref g19))) (l19 : K.lookup g19 = some ⟨oc19, od19, .func (PySem.W.fnOf "tree_mirrored" "tree_mirrored" (defArgs (top 41)) (defBody (top 41)) (defScope (top 41)) .none kV19 dc19 pm19 an19 cd19 ct19), sl19⟩) (c19 : PySem.W.codeIn K cd19 "tree_mirrored" = true) (k19 : PySem.W.keepIn K (.ref g19) = true)
    (a20 : PySem.W.nsIn K mainGlobals "_law_always_right" = some (some (.ref g20))) (l20 : K.lookup g20 = some ⟨oc20, od20, .func (PySem.W.fnOf "_law_always_right" "_law_always_right" (defArgs (top 51)) (defBody (top 51)) (defScope (top 51)) .none kV20 dc20 pm20 an20 cd20 ct20), sl20⟩) (c20 : PySem.W.codeIn K cd20 "_law_always_right" = true) (k20 : PySem.W.keepIn K (.ref g20) = true)
    (a21 : PySem.W.nsIn K mainGlobals "is_side" = some (some (.ref g21))) (l21 : K.lookup g21 = some ⟨oc21, od21, .func (PySem.W.fnOf "is_side" "is_side" (defArgs (top 15)) (defBody (top 15)) (defScope (top 15)) .none kV21 dc21 pm21 an21 cd21 ct21), sl21⟩) (c21 : PySem.W.codeIn K cd21 "is_side" = true) (k21 : PySem.W.keepIn K (.ref g21) = true)
    (a22 : PySem.W.nsIn K mainGlobals "is_letter" = some (some (.ref g22))) (l22 : K.lookup g22 = some ⟨oc22, od22, .func (PySem.W.fnOf "is_letter" "is_letter" (defArgs (top 7)) (defBody (top 7)) (defScope (top 7)) .none kV22 dc22 pm22 an22 cd22 ct22), sl22⟩) (c22 : PySem.W.codeIn K cd22 "is_letter" = true) (k22 : PySem.W.keepIn K (.ref g22) = true)
    (a23 : PySem.W.nsIn K mainGlobals "is_text" = some (some (.ref g23))) (l23 : K.lookup g23 = some ⟨oc23, od23, .func (PySem.W.fnOf "is_text" "is_text" (defArgs (top 8)) (defBody (top 8)) (defScope (top 8)) .none kV23 dc23 pm23 an23 cd23 ct23), sl23⟩) (c23 : PySem.W.codeIn K cd23 "is_text" = true) (k23 : PySem.W.keepIn K (.ref g23) = true)
    (a24 : PySem.W.nsIn K mainGlobals "is_letters" = some (some (.ref g24))) (l24 : K.lookup g24 = some ⟨oc24, od24, .func (PySem.W.fnOf "is_letters" "is_letters" (defArgs (top 9)) (defBody (top 9)) (defScope (top 9)) .none kV24 dc24 pm24 an24 cd24 ct24), sl24⟩) (c24 : PySem.W.codeIn K cd24 "is_letters" = true) (k24 : PySem.W.keepIn K (.ref g24) = true)
    (a25 : PySem.W.nsIn K mainGlobals "is_tuple_of" = some (some (.ref g25))) (l25 : K.lookup g25 = some ⟨oc25, od25, .func (PySem.W.fnOf "is_tuple_of" "is_tuple_of" (defArgs (top 3)) (defBody (top 3)) (defScope (top 3)) .none kV25 dc25 pm25 an25 cd25 ct25), sl25⟩) (c25 : PySem.W.codeIn K cd25 "is_tuple_of" = true) (k25 : PySem.W.keepIn K (.ref g25) = true)
    (a26 : PySem.W.nsIn K mainGlobals "is_ask" = some (some (.ref g26))) (l26 : K.lookup g26 = some ⟨oc26, od26, .func (PySem.W.fnOf "is_ask" "is_ask" (defArgs (top 16)) (defBody (top 16)) (defScope (top 16)) .none kV26 dc26 pm26 an26 cd26 ct26), sl26⟩) (c26 : PySem.W.codeIn K cd26 "is_ask" = true) (k26 : PySem.W.keepIn K (.ref g26) = true)
    (a27 : PySem.W.nsIn K mainGlobals "is_knot" = some (some (.ref g27))) (l27 : K.lookup g27 = some ⟨oc27, od27, .func (PySem.W.fnOf "is_knot" "is_knot" (defArgs (top 22)) (defBody (top 22)) (defScope (top 22)) .none kV27 dc27 pm27 an27 cd27 ct27), sl27⟩) (c27 : PySem.W.codeIn K cd27 "is_knot" = true) (k27 : PySem.W.keepIn K (.ref g27) = true)
    (a28 : PySem.W.nsIn K mainGlobals "spots_of" = some (some (.ref g28))) (l28 : K.lookup g28 = some ⟨oc28, od28, .func (PySem.W.fnOf "spots_of" "spots_of" (defArgs (top 23)) (defBody (top 23)) (defScope (top 23)) .none kV28 dc28 pm28 an28 cd28 ct28), sl28⟩) (c28 : PySem.W.codeIn K cd28 "spots_of" = true) (k28 : PySem.W.keepIn K (.ref g28) = true)
    (a29 : PySem.W.nsIn K mainGlobals "is_tree" = some (some (.ref g29))) (l29 : K.lookup g29 = some ⟨oc29, od29, .func (PySem.W.fnOf "is_tree" "is_tree" (defArgs (top 24)) (defBody (top 24)) (defScope (top 24)) .none kV29 dc29 pm29 an29 cd29 ct29), sl29⟩) (c29 : PySem.W.codeIn K cd29 "is_tree" = true) (k29 : PySem.W.keepIn K (.ref g29) = true)
    (a30 : PySem.W.nsIn K mainGlobals "manners" = some (some (.ref g30))) (l30 : K.lookup g30 = some ⟨oc30, od30, .func (PySem.W.fnOf "manners" "manners" (defArgs (top 27)) (defBody (top 27)) (defScope (top 27)) .none kV30 dc30 pm30 an30 cd30 ct30), sl30⟩) (c30 : PySem.W.codeIn K cd30 "manners" = true) (k30 : PySem.W.keepIn K (.ref g30) = true)
    (a31 : PySem.W.nsIn K mainGlobals "_law_lists" = some (some (.ref g31))) (l31 : K.lookup g31 = some ⟨oc31, od31, .func (PySem.W.fnOf "_law_lists" "_law_lists" (defArgs (top 45)) (defBody (top 45)) (defScope (top 45)) .none kV31 dc31 pm31 an31 cd31 ct31), sl31⟩) (c31 : PySem.W.codeIn K cd31 "_law_lists" = true) (k31 : PySem.W.keepIn K (.ref g31) = true)
    (a32 : PySem.W.nsIn K mainGlobals "_law_things_right" = some (some (.ref g32))) (l32 : K.lookup g32 = some ⟨oc32, od32, .func (PySem.W.fnOf "_law_things_right" "_law_things_right" (defArgs (top 48)) (defBody (top 48)) (defScope (top 48)) .none kV32 dc32 pm32 an32 cd32 ct32), sl32⟩) (c32 : PySem.W.codeIn K cd32 "_law_things_right" = true) (k32 : PySem.W.keepIn K (.ref g32) = true)
    (a33 : PySem.W.nsIn K mainGlobals "answer" = some (some (.ref g33))) (l33 : K.lookup g33 = some ⟨oc33, od33, .func (PySem.W.fnOf "answer" "answer" (defArgs (top 30)) (defBody (top 30)) (defScope (top 30)) .none kV33 dc33 pm33 an33 cd33 ct33), sl33⟩) (c33 : PySem.W.codeIn K cd33 "answer" = true) (k33 : PySem.W.keepIn K (.ref g33) = true)
    (a34 : PySem.W.nsIn K mainGlobals "way_of" = some (some (.ref g34))) (l34 : K.lookup g34 = some ⟨oc34, od34, .func (PySem.W.fnOf "way_of" "way_of" (defArgs (top 31)) (defBody (top 31)) (defScope (top 31)) .none kV34 dc34 pm34 an34 cd34 ct34), sl34⟩) (c34 : PySem.W.codeIn K cd34 "way_of" = true) (k34 : PySem.W.keepIn K (.ref g34) = true)
    (a35 : PySem.W.nsIn K mainGlobals "_law_runs_right" = some (some (.ref g35))) (l35 : K.lookup g35 = some ⟨oc35, od35, .func (PySem.W.fnOf "_law_runs_right" "_law_runs_right" (defArgs (top 49)) (defBody (top 49)) (defScope (top 49)) .none kV35 dc35 pm35 an35 cd35 ct35), sl35⟩) (c35 : PySem.W.codeIn K cd35 "_law_runs_right" = true) (k35 : PySem.W.keepIn K (.ref g35) = true)
    (a36 : PySem.W.nsIn K mainGlobals "far_name" = some (some (.ref g36))) (l36 : K.lookup g36 = some ⟨oc36, od36, .func (PySem.W.fnOf "far_name" "far_name" (defArgs (top 36)) (defBody (top 36)) (defScope (top 36)) .none kV36 dc36 pm36 an36 cd36 ct36), sl36⟩) (c36 : PySem.W.codeIn K cd36 "far_name" = true) (k36 : PySem.W.keepIn K (.ref g36) = true)
    (a37 : PySem.W.nsIn K mainGlobals "near_name" = some (some (.ref g37))) (l37 : K.lookup g37 = some ⟨oc37, od37, .func (PySem.W.fnOf "near_name" "near_name" (defArgs (top 37)) (defBody (top 37)) (defScope (top 37)) .none kV37 dc37 pm37 an37 cd37 ct37), sl37⟩) (c37 : PySem.W.codeIn K cd37 "near_name" = true) (k37 : PySem.W.keepIn K (.ref g37) = true)
    (a38 : PySem.W.nsIn K mainGlobals "moved" = some (some (.ref g38))) (l38 : K.lookup g38 = some ⟨oc38, od38, .func (PySem.W.fnOf "moved" "moved" (defArgs (top 35)) (defBody (top 35)) (defScope (top 35)) .none kV38 dc38 pm38 an38 cd38 ct38), sl38⟩) (c38 : PySem.W.codeIn K cd38 "moved" = true) (k38 : PySem.W.keepIn K (.ref g38) = true)
    (a39 : PySem.W.nsIn K mainGlobals "tree_joined" = some (some (.ref g39))) (l39 : K.lookup g39 = some ⟨oc39, od39, .func (PySem.W.fnOf "tree_joined" "tree_joined" (defArgs (top 38)) (defBody (top 38)) (defScope (top 38)) .none kV39 dc39 pm39 an39 cd39 ct39), sl39⟩) (c39 : PySem.W.codeIn K cd39 "tree_joined" = true) (k39 : PySem.W.keepIn K (.ref g39) = true)
    (a40 : PySem.W.nsIn K mainGlobals "tree_contrary" = some (some (.ref g40))) (l40 : K.lookup g40 = some ⟨oc40, od40, .func (PySem.W.fnOf "tree_contrary" "tree_contrary" (defArgs (top 39)) (defBody (top 39)) (defScope (top 39)) .none kV40 dc40 pm40 an40 cd40 ct40), sl40⟩) (c40 : PySem.W.codeIn K cd40 "tree_contrary" = true) (k40 : PySem.W.keepIn K (.ref g40) = true)
    (a41 : PySem.W.nsIn K mainGlobals "_law_made_right" = some (some (.ref g41))) (l41 : K.lookup g41 = some ⟨oc41, od41, .func (PySem.W.fnOf "_law_made_right" "_law_made_right" (defArgs (top 50)) (defBody (top 50)) (defScope (top 50)) .none kV41 dc41 pm41 an41 cd41 ct41), sl41⟩) (c41 : PySem.W.codeIn K cd41 "_law_made_right" = true) (k41 : PySem.W.keepIn K (.ref g41) = true)
    (a42 : PySem.W.nsIn K mainGlobals "_law_cells" = some (some (.ref g42))) (l42 : K.lookup g42 = some ⟨oc42, od42, .func (PySem.W.fnOf "_law_cells" "_law_cells" (defArgs (top 43)) (defBody (top 43)) (defScope (top 43)) .none kV42 dc42 pm42 an42 cd42 ct42), sl42⟩) (c42 : PySem.W.codeIn K cd42 "_law_cells" = true) (k42 : PySem.W.keepIn K (.ref g42) = true)
    (a43 : PySem.W.nsIn K mainGlobals "law" = some (some (.ref g43))) (l43 : K.lookup g43 = some ⟨oc43, od43, .func (PySem.W.fnOf "law" "law" (defArgs (top 52)) (defBody (top 52)) (defScope (top 52)) .none kV43 dc43 pm43 an43 cd43 ct43), sl43⟩) (c43 : PySem.W.codeIn K cd43 "law" = true) (k43 : PySem.W.keepIn K (.ref g43) = true)
    (z_all : PySem.W.nsIn K mainGlobals "all" = some none)
    (z_bool : PySem.W.nsIn K mainGlobals "bool" = some none)
    (z_dict : PySem.W.nsIn K mainGlobals "dict" = some none)
    (z_enumerate : PySem.W.nsIn K mainGlobals "enumerate" = some none)
    (z_int : PySem.W.nsIn K mainGlobals "int" = some none)
    (z_isinstance : PySem.W.nsIn K mainGlobals "isinstance" = some none)
    (z_len : PySem.W.nsIn K mainGlobals "len" = some none)
    (z_list : PySem.W.nsIn K mainGlobals "list" = some none)
    (z_max : PySem.W.nsIn K mainGlobals "max" = some none)
    (z_range : PySem.W.nsIn K mainGlobals "range" = some none)
    (z_sorted : PySem.W.nsIn K mainGlobals "sorted" = some none)
    (z_str : PySem.W.nsIn K mainGlobals "str" = some none)
    (z_tuple : PySem.W.nsIn K mainGlobals "tuple" = some none)
    (z_zip : PySem.W.nsIn K mainGlobals "zip" = some none)
    (ca_SIDES : PySem.W.nsIn K mainGlobals "SIDES" = some (some (.ref cg_SIDES))) (cl_SIDES : K.lookup cg_SIDES = some ⟨.type "tuple", cd_SIDES, .seq cx_SIDES cn_SIDES, cs_SIDES⟩) (cz_SIDES : cx_SIDES.size ≤ sizeLine) (cv_SIDES : Vals ([(.str ⟨[110, 101, 120, 116].toArray⟩), (.str ⟨[108, 97, 115, 116].toArray⟩)] : List V) cx_SIDES.toList)
    (ca_WORDS : PySem.W.nsIn K mainGlobals "WORDS" = some (some (.ref cg_WORDS))) (cl_WORDS : K.lookup cg_WORDS = some ⟨.type "dict", none, .dict ces_WORDS cn_WORDS, #[]⟩) (ck_WORDS : PySem.W.KeysLit w.params ces_WORDS.toList) (ce_WORDS_0 : PySem.W.nsIn K cg_WORDS "both" = some (some cu_WORDS_0)) (cr_WORDS_0 : RelV (.bl false) cu_WORDS_0) (ce_WORDS_1 : PySem.W.nsIn K cg_WORDS "either" = some (some cu_WORDS_1)) (cr_WORDS_1 : RelV (.bl true) cu_WORDS_1) (ce_WORDS_2 : PySem.W.nsIn K cg_WORDS "unlike" = some (some cu_WORDS_2)) (cr_WORDS_2 : RelV .non cu_WORDS_2) :
    ∃ fd : FuncData, (∀ (s : Shared) (v : Value), BindsTo s fd ⟨[v], []⟩ [("script", v)]) ∧ ∀ base : Heap, K.In base → base.Ns mainGlobals mg → FnOk l.prog w K mg base (L2.CX l.prog w) 18 fa fd ["script"] (spL K f_law) := by
  have e := hfa.symm.trans (PySem.W.mg_of X G a43)
  cases e
  have T : Txt w K mg := { d__law_same := ⟨_, _, fun_mk (st := top 44) l0 c0 k0, PySem.W.mg_of X G a0, (fun_mk (st := top 44) l0 c0 k0).binds (ps := ["got", "goal"]) (fun _ _ _ _ _ _ us hl => match us, hl with | [_, _], _ => rfl), fun _ h => absurd h List.not_mem_nil⟩, d__law_early := ⟨_, _, fun_mk (st := top 46) l1 c1 k1, PySem.W.mg_of X G a1, (fun_mk (st := top 46) l1 c1 k1).binds (ps := []) (fun _ _ _ _ _ _ us hl => match us, hl with | [], _ => rfl), fun _ h => absurd h List.not_mem_nil⟩, d__law_some := ⟨_, _, fun_mk (st := top 47) l2 c2 k2, PySem.W.mg_of X G a2, (fun_mk (st := top 47) l2 c2 k2).binds (ps := []) (fun _ _ _ _ _ _ us hl => match us, hl with | [], _ => rfl), fun _ h => absurd h List.not_mem_nil⟩, d_tuple_of := ⟨_, _, fun_mk (st := top 2) l3 c3 k3, PySem.W.mg_of X G a3, (fun_mk (st := top 2) l3 c3 k3).binds (ps := ["thing"]) (fun _ _ _ _ _ _ us hl => match us, hl with | [_], _ => rfl), fun _ h => absurd h List.not_mem_nil⟩, d_is_number := ⟨_, _, fun_mk (st := top 1) l4 c4 k4, PySem.W.mg_of X G a4, (fun_mk (st := top 1) l4 c4 k4).binds (ps := ["thing"]) (fun _ _ _ _ _ _ us hl => match us, hl with | [_], _ => rfl), fun _ h => absurd h List.not_mem_nil⟩, d_sure_place := ⟨_, _, fun_mk (st := top 10) l5 c5 k5, PySem.W.mg_of X G a5, (fun_mk (st := top 10) l5 c5 k5).binds (ps := ["text", "place"]) (fun _ _ _ _ _ _ us hl => match us, hl with | [_, _], _ => rfl), fun _ h => absurd h List.not_mem_nil⟩, d_next_place := ⟨_, _, fun_mk (st := top 11) l6 c6 k6, PySem.W.mg_of X G a6, (fun_mk (st := top 11) l6 c6 k6).binds (ps := ["text", "place", "letters"]) (fun _ _ _ _ _ _ us hl => match us, hl with | [_, _, _], _ => rfl), fun _ h => absurd h List.not_mem_nil⟩, d_last_place := ⟨_, _, fun_mk (st := top 12) l7 c7 k7, PySem.W.mg_of X G a7, (fun_mk (st := top 12) l7 c7 k7).binds (ps := ["text", "place", "letters"]) (fun _ _ _ _ _ _ us hl => match us, hl with | [_, _, _], _ => rfl), fun _ h => absurd h List.not_mem_nil⟩, d_found := ⟨_, _, fun_mk (st := top 17) l8 c8 k8, PySem.W.mg_of X G a8, (fun_mk (st := top 17) l8 c8 k8).binds (ps := ["text", "place", "side", "letters"]) (fun _ _ _ _ _ _ us hl => match us, hl with | [_, _, _, _], _ => rfl), fun _ h => absurd h List.not_mem_nil⟩, d_gone := ⟨_, _, fun_mk (st := top 28) l9 c9 k9, PySem.W.mg_of X G a9, (fun_mk (st := top 28) l9 c9 k9).binds (ps := ["tree", "text"]) (fun _ _ _ _ _ _ us hl => match us, hl with | [_, _], _ => rfl), fun _ h => absurd h List.not_mem_nil⟩, d_run := ⟨_, _, fun_mk (st := top 29) l10 c10 k10, PySem.W.mg_of X G a10, (fun_mk (st := top 29) l10 c10 k10).binds (ps := ["tree", "text"]) (fun _ _ _ _ _ _ us hl => match us, hl with | [_, _], _ => rfl), List.forall_mem_cons.mpr ⟨fun ws hl => (match ws, hl with | [_, _], _ => rfl), fun _ h => absurd h List.not_mem_nil⟩⟩, d_next_knots := ⟨_, _, fun_mk (st := top 20) l11 c11 k11, PySem.W.mg_of X G a11, (fun_mk (st := top 20) l11 c11 k11).binds (ps := ["knot"]) (fun _ _ _ _ _ _ us hl => match us, hl with | [_], _ => rfl), fun _ h => absurd h List.not_mem_nil⟩, d_asks_ahead := ⟨_, _, fun_mk (st := top 25) l12 c12 k12, PySem.W.mg_of X G a12, (fun_mk (st := top 25) l12 c12 k12).binds (ps := ["tree"]) (fun _ _ _ _ _ _ us hl => match us, hl with | [_], _ => rfl), List.forall_mem_cons.mpr ⟨fun ws hl => (match ws, hl with | [_], _ => rfl), fun _ h => absurd h List.not_mem_nil⟩⟩, d_depth := ⟨_, _, fun_mk (st := top 26) l13 c13 k13, PySem.W.mg_of X G a13, (fun_mk (st := top 26) l13 c13 k13).binds (ps := ["tree"]) (fun _ _ _ _ _ _ us hl => match us, hl with | [_], _ => rfl), List.forall_mem_cons.mpr ⟨fun ws hl => (match ws, hl with | [_], _ => rfl), fun _ h => absurd h List.not_mem_nil⟩⟩, d_with_next := ⟨_, _, fun_mk (st := top 21) l14 c14 k14, PySem.W.mg_of X G a14, (fun_mk (st := top 21) l14 c14 k14).binds (ps := ["knot", "numbers"]) (fun _ _ _ _ _ _ us hl => match us, hl with | [_, _], _ => rfl), fun _ h => absurd h List.not_mem_nil⟩, d_merged := ⟨_, _, fun_mk (st := top 32) l15 c15 k15, PySem.W.mg_of X G a15, (fun_mk (st := top 32) l15 c15 k15).binds (ps := ["knots", "top"]) (fun _ _ _ _ _ _ us hl => match us, hl with | [_, _], _ => rfl), fun _ h => absurd h List.not_mem_nil⟩, d_numbered := ⟨_, _, fun_mk (st := top 33) l16 c16 k16, PySem.W.mg_of X G a16, (fun_mk (st := top 33) l16 c16 k16).binds (ps := ["knots", "top"]) (fun _ _ _ _ _ _ us hl => match us, hl with | [_, _], _ => rfl), fun _ h => absurd h List.not_mem_nil⟩, d_shared := ⟨_, _, fun_mk (st := top 34) l17 c17 k17, PySem.W.mg_of X G a17, (fun_mk (st := top 34) l17 c17 k17).binds (ps := ["tree"]) (fun _ _ _ _ _ _ us hl => match us, hl with | [_], _ => rfl), List.forall_mem_cons.mpr ⟨fun ws hl => (match ws, hl with | [_], _ => rfl), fun _ h => absurd h List.not_mem_nil⟩⟩, d_mirrored_knot := ⟨_, _, fun_mk (st := top 40) l18 c18 k18, PySem.W.mg_of X G a18, (fun_mk (st := top 40) l18 c18 k18).binds (ps := ["knot"]) (fun _ _ _ _ _ _ us hl => match us, hl with | [_], _ => rfl), fun _ h => absurd h List.not_mem_nil⟩, d_tree_mirrored := ⟨_, _, fun_mk (st := top 41) l19 c19 k19, PySem.W.mg_of X G a19, (fun_mk (st := top 41) l19 c19 k19).binds (ps := ["tree"]) (fun _ _ _ _ _ _ us hl => match us, hl with | [_], _ => rfl), List.forall_mem_cons.mpr ⟨fun ws hl => (match ws, hl with | [_], _ => rfl), fun _ h => absurd h List.not_mem_nil⟩⟩, d__law_always_right := ⟨_, _, fun_mk (st := top 51) l20 c20 k20, PySem.W.mg_of X G a20, (fun_mk (st := top 51) l20 c20 k20).binds (ps := []) (fun _ _ _ _ _ _ us hl => match us, hl with | [], _ => rfl), fun _ h => absurd h List.not_mem_nil⟩, d_is_side := ⟨_, _, fun_mk (st := top 15) l21 c21 k21, PySem.W.mg_of X G a21, (fun_mk (st := top 15) l21 c21 k21).binds (ps := ["thing"]) (fun _ _ _ _ _ _ us hl => match us, hl with | [_], _ => rfl), fun _ h => absurd h List.not_mem_nil⟩, d_is_letter := ⟨_, _, fun_mk (st := top 7) l22 c22 k22, PySem.W.mg_of X G a22, (fun_mk (st := top 7) l22 c22 k22).binds (ps := ["wide", "thing"]) (fun _ _ _ _ _ _ us hl => match us, hl with | [_, _], _ => rfl), fun _ h => absurd h List.not_mem_nil⟩, d_is_text := ⟨_, _, fun_mk (st := top 8) l23 c23 k23, PySem.W.mg_of X G a23, (fun_mk (st := top 8) l23 c23 k23).binds (ps := ["wide", "thing"]) (fun _ _ _ _ _ _ us hl => match us, hl with | [_, _], _ => rfl), fun _ h => absurd h List.not_mem_nil⟩, d_is_letters := ⟨_, _, fun_mk (st := top 9) l24 c24 k24, PySem.W.mg_of X G a24, (fun_mk (st := top 9) l24 c24 k24).binds (ps := ["wide", "thing"]) (fun _ _ _ _ _ _ us hl => match us, hl with | [_, _], _ => rfl), fun _ h => absurd h List.not_mem_nil⟩, d_is_tuple_of := ⟨_, _, fun_mk (st := top 3) l25 c25 k25, PySem.W.mg_of X G a25, (fun_mk (st := top 3) l25 c25 k25).binds (ps := ["thing", "many"]) (fun _ _ _ _ _ _ us hl => match us, hl with | [_, _], _ => rfl), fun _ h => absurd h List.not_mem_nil⟩, d_is_ask := ⟨_, _, fun_mk (st := top 16) l26 c26 k26, PySem.W.mg_of X G a26, (fun_mk (st := top 16) l26 c26 k26).binds (ps := ["wide", "thing"]) (fun _ _ _ _ _ _ us hl => match us, hl with | [_, _], _ => rfl), fun _ h => absurd h List.not_mem_nil⟩, d_is_knot := ⟨_, _, fun_mk (st := top 22) l27 c27 k27, PySem.W.mg_of X G a27, (fun_mk (st := top 22) l27 c27 k27).binds (ps := ["wide", "many", "thing"]) (fun _ _ _ _ _ _ us hl => match us, hl with | [_, _, _], _ => rfl), fun _ h => absurd h List.not_mem_nil⟩, d_spots_of := ⟨_, _, fun_mk (st := top 23) l28 c28 k28, PySem.W.mg_of X G a28, (fun_mk (st := top 23) l28 c28 k28).binds (ps := ["knot"]) (fun _ _ _ _ _ _ us hl => match us, hl with | [_], _ => rfl), fun _ h => absurd h List.not_mem_nil⟩, d_is_tree := ⟨_, _, fun_mk (st := top 24) l29 c29 k29, PySem.W.mg_of X G a29, (fun_mk (st := top 24) l29 c29 k29).binds (ps := ["wide", "thing"]) (fun _ _ _ _ _ _ us hl => match us, hl with | [_, _], _ => rfl), List.forall_mem_cons.mpr ⟨fun ws hl => (match ws, hl with | [_, _], _ => rfl), fun _ h => absurd h List.not_mem_nil⟩⟩, d_manners := ⟨_, _, fun_mk (st := top 27) l30 c30 k30, PySem.W.mg_of X G a30, (fun_mk (st := top 27) l30 c30 k30).binds (ps := ["tree"]) (fun _ _ _ _ _ _ us hl => match us, hl with | [_], _ => rfl), fun _ h => absurd h List.not_mem_nil⟩, d__law_lists := ⟨_, _, fun_mk (st := top 45) l31 c31 k31, PySem.W.mg_of X G a31, (fun_mk (st := top 45) l31 c31 k31).binds (ps := ["matter"]) (fun _ _ _ _ _ _ us hl => match us, hl with | [_], _ => rfl), fun _ h => absurd h List.not_mem_nil⟩, d__law_things_right := ⟨_, _, fun_mk (st := top 48) l32 c32 k32, PySem.W.mg_of X G a32, (fun_mk (st := top 48) l32 c32 k32).binds (ps := []) (fun _ _ _ _ _ _ us hl => match us, hl with | [], _ => rfl), fun _ h => absurd h List.not_mem_nil⟩, d_answer := ⟨_, _, fun_mk (st := top 30) l33 c33 k33, PySem.W.mg_of X G a33, (fun_mk (st := top 30) l33 c33 k33).binds (ps := ["tree", "text"]) (fun _ _ _ _ _ _ us hl => match us, hl with | [_, _], _ => rfl), List.forall_mem_cons.mpr ⟨fun ws hl => (match ws, hl with | [_, _], _ => rfl), fun _ h => absurd h List.not_mem_nil⟩⟩, d_way_of := ⟨_, _, fun_mk (st := top 31) l34 c34 k34, PySem.W.mg_of X G a34, (fun_mk (st := top 31) l34 c34 k34).binds (ps := ["tree", "text"]) (fun _ _ _ _ _ _ us hl => match us, hl with | [_, _], _ => rfl), List.forall_mem_cons.mpr ⟨fun ws hl => (match ws, hl with | [_, _], _ => rfl), fun _ h => absurd h List.not_mem_nil⟩⟩, d__law_runs_right := ⟨_, _, fun_mk (st := top 49) l35 c35 k35, PySem.W.mg_of X G a35, (fun_mk (st := top 49) l35 c35 k35).binds (ps := []) (fun _ _ _ _ _ _ us hl => match us, hl with | [], _ => rfl), fun _ h => absurd h List.not_mem_nil⟩, d_far_name := ⟨_, _, fun_mk (st := top 36) l36 c36 k36, PySem.W.mg_of X G a36, (fun_mk (st := top 36) l36 c36 k36).binds (ps := ["far", "number", "many", "turns"]) (fun _ _ _ _ _ _ us hl => match us, hl with | [_, _, _, _], _ => rfl), fun _ h => absurd h List.not_mem_nil⟩, d_near_name := ⟨_, _, fun_mk (st := top 37) l37 c37 k37, PySem.W.mg_of X G a37, (fun_mk (st := top 37) l37 c37 k37).binds (ps := ["near", "far", "number", "many", "word"]) (fun _ _ _ _ _ _ us hl => match us, hl with | [_, _, _, _, _], _ => rfl), fun _ h => absurd h List.not_mem_nil⟩, d_moved := ⟨_, _, fun_mk (st := top 35) l38 c38 k38, PySem.W.mg_of X G a38, (fun_mk (st := top 35) l38 c38 k38).binds (ps := ["knot", "many"]) (fun _ _ _ _ _ _ us hl => match us, hl with | [_, _], _ => rfl), fun _ h => absurd h List.not_mem_nil⟩, d_tree_joined := ⟨_, _, fun_mk (st := top 38) l39 c39 k39, PySem.W.mg_of X G a39, (fun_mk (st := top 38) l39 c39 k39).binds (ps := ["one", "other", "word"]) (fun _ _ _ _ _ _ us hl => match us, hl with | [_, _, _], _ => rfl), List.forall_mem_cons.mpr ⟨fun ws hl => (match ws, hl with | [_, _, _], _ => rfl), fun _ h => absurd h List.not_mem_nil⟩⟩, d_tree_contrary := ⟨_, _, fun_mk (st := top 39) l40 c40 k40, PySem.W.mg_of X G a40, (fun_mk (st := top 39) l40 c40 k40).binds (ps := ["tree"]) (fun _ _ _ _ _ _ us hl => match us, hl with | [_], _ => rfl), List.forall_mem_cons.mpr ⟨fun ws hl => (match ws, hl with | [_], _ => rfl), fun _ h => absurd h List.not_mem_nil⟩⟩, d__law_made_right := ⟨_, _, fun_mk (st := top 50) l41 c41 k41, PySem.W.mg_of X G a41, (fun_mk (st := top 50) l41 c41 k41).binds (ps := []) (fun _ _ _ _ _ _ us hl => match us, hl with | [], _ => rfl), fun _ h => absurd h List.not_mem_nil⟩, d__law_cells := ⟨_, _, fun_mk (st := top 43) l42 c42 k42, PySem.W.mg_of X G a42, (fun_mk (st := top 43) l42 c42 k42).binds (ps := ["script", "most"]) (fun _ _ _ _ _ _ us hl => match us, hl with | [_, _], _ => rfl), fun _ h => absurd h List.not_mem_nil⟩, c_SIDES := ⟨.ref cg_SIDES, .ref cg_SIDES, PySem.W.mg_of X G ca_SIDES, rfl, fun _ _ => by rw [Rep]; exact ⟨cg_SIDES, [(.str ⟨[110, 101, 120, 116].toArray⟩), (.str ⟨[108, 97, 115, 116].toArray⟩)], rfl, .inr ⟨_, _, _, cl_SIDES, rfl, rfl, cz_SIDES, cv_SIDES⟩, (.cons (by rw [Rep]) (.cons (by rw [Rep]) Reps.nil))⟩⟩, c_WORDS := ⟨cg_WORDS, PySem.W.mg_of X G ca_WORDS, List.forall_mem_cons.mpr ⟨⟨(.bl false), ⟨ces_WORDS, cn_WORDS, _, cl_WORDS, ck_WORDS, (by rw [show (⟨[98, 111, 116, 104].toArray⟩ : Str) = "both" from by decide +kernel]; exact ce_WORDS_0), cr_WORDS_0⟩, fun _ _ => by rw [Rep]⟩, List.forall_mem_cons.mpr ⟨⟨(.bl true), ⟨ces_WORDS, cn_WORDS, _, cl_WORDS, ck_WORDS, (by rw [show (⟨[101, 105, 116, 104, 101, 114].toArray⟩ : Str) = "either" from by decide +kernel]; exact ce_WORDS_1), cr_WORDS_1⟩, fun _ _ => by rw [Rep]⟩, List.forall_mem_cons.mpr ⟨⟨.non, ⟨ces_WORDS, cn_WORDS, _, cl_WORDS, ck_WORDS, (by rw [show (⟨[117, 110, 108, 105, 107, 101].toArray⟩ : Str) = "unlike" from by decide +kernel]; exact ce_WORDS_2), cr_WORDS_2⟩, fun _ _ => by rw [Rep]⟩, fun _ h => absurd h List.not_mem_nil⟩⟩⟩⟩, b_all := PySem.W.mg_none_of X G z_all, b_bool := PySem.W.mg_none_of X G z_bool, b_dict := PySem.W.mg_none_of X G z_dict, b_enumerate := PySem.W.mg_none_of X G z_enumerate, b_int := PySem.W.mg_none_of X G z_int, b_isinstance := PySem.W.mg_none_of X G z_isinstance, b_len := PySem.W.mg_none_of X G z_len, b_list := PySem.W.mg_none_of X G z_list, b_max := PySem.W.mg_none_of X G z_max, b_range := PySem.W.mg_none_of X G z_range, b_sorted := PySem.W.mg_none_of X G z_sorted, b_str := PySem.W.mg_none_of X G z_str, b_tuple := PySem.W.mg_none_of X G z_tuple, b_zip := PySem.W.mg_none_of X G z_zip }
  exact ⟨PySem.W.fnOf "law" "law" (defArgs (top 52)) (defBody (top 52)) (defScope (top 52)) .none kV43 dc43 pm43 an43 cd43 ct43, fun s v => .of_eq rfl, fun base _ _ =>
    law_at (fun_mk (st := top 52) l43 c43 k43) sc_law fun f cdv A outer s H E hr => (b_cons (st_if (t_not (t_val (s_call0 (fn__law_always_right T) (hr.mono (by decide)) (takes_of rfl rfl rfl rfl))))
    (b_one (st_ret s_bl))
    b_nil)
  (b_one (st_ret (s_one_of (lv := 17) (sf_cons (fn__law_things_right T) (by decide) (sf_cons (fn__law_runs_right T) (by decide) (sf_cons (fn__law_made_right T) (by decide) sf_nil))) (by decide) (hr.mono (by decide)) (takes_of rfl rfl rfl rfl) (s_bin o_mod (s_ty1 b_int T.b_int (by rfl) (a_cons (s_ixA (Room.u65 hr) (s_call (fn__law_cells T) (hr.mono (by decide)) (takes_of rfl rfl rfl rfl) (a_cons (s_var 0) (a_cons s_int a_nil)) (hlen := (len_cons (len_cons len_nil)))) s_int) a_nil)) s_int)))))⟩
theorem walk {l : PySem.W.OpenLaw} {qq : Program} {loose : List Str} {XP : (Str → Option Value) → Heap → Prop} {YP : World → Heap → Prop} {d : DefRec} {K : Params → PySem.W.Frag} (hpure : ∀ ns : List Int, ns.length ≤ 63 → ∃ ph, f_law [.d (.fz ns)] [] = .ok (.d (.bl true)) ph) (hn : l.most = some 63) (hdf : d.params.defaults = [])
    (hY : ∀ (w : World) (h : Heap), YP w h → (K w.params).In h)
    (F : ∀ (w : World) (mg : Str → Option Value) (fa : Addr) (h : Heap), (K w.params).In h → h.Ns mainGlobals mg → mg d.name = some (.ref fa) →
      ∃ fd : FuncData, (∀ (s : Shared) (u : Value), BindsTo s fd ⟨[u], []⟩ [("script", u)]) ∧ ∀ base : Heap, (K w.params).In base → base.Ns mainGlobals mg → FnOk l.prog w (K w.params) mg base (L2.CX l.prog w) 18 fa fd ["script"] (spL (K w.params) f_law)) :
    PySem.W.WalkO qq loose XP YP l.row.toRowW d [] (fun f vs => PySem.call f vs) :=
  L2.walk_of (n := 63) (k := 18) (x := "script") (CX := fun w => L2.CX l.prog w) (sp := fun w => spL (K w.params) f_law) hn (by decide) hdf ⟨rfl, by decide, by decide⟩ hY F (fun _ _ a ns hl _ hS => spL_of hpure hl hS) cx_false
end
end Pyp

open PySem PySem.W PyProof.Rows in
set_option maxRecDepth 100000 in
set_option maxHeartbeats 0 in
theorem PySem.Challenge.cw_turnedasks_k12_trees_by_hand_and_refused_holds : PySem.Challenge.rw_turnedasks_k12_trees_by_hand_and_refused.Holds := by
  w_on; o_law; k_head; (case hw => w_witness2)
  k_fill
  refine Pyp.walk (l := PySem.Challenge.rw_turnedasks_k12_trees_by_hand_and_refused) Pyp.pure_law rfl rfl (fun w h Y => PySem.W.kIn_of Y) ?F
  case F =>
    intro w mg fa h KX G hmg
    refine' Pyp.all_mk KX G hmg ?a0 ?l0 ?c0 ?k0 ?a1 ?l1 ?c1 ?k1 ?a2 ?l2 ?c2 ?k2 ?a3 ?l3 ?c3 ?k3 ?a4 ?l4 ?c4 ?k4 ?a5 ?l5 ?c5 ?k5 ?a6 ?l6 ?c6 ?k6 ?a7 ?l7 ?c7 ?k7 ?a8 ?l8 ?c8 ?k8 ?a9 ?l9 ?c9 ?k9 ?a10 ?l10 ?c10 ?k10 ?a11 ?l11 ?c11 ?k11 ?a12 ?l12 ?c12 ?k12 ?a13 ?l13 ?c13 ?k13 ?a14 ?l14 ?c14 ?k14 ?a15 ?l15 ?c15 ?k15 ?a16 ?l16 ?c16 ?k16 ?a17 ?l17 ?c17 ?k17 ?a18 ?l18 ?c18 ?k18 ?a19 ?l19 ?c19 ?k19 ?a20 ?l20 ?c20 ?k20 ?a21 ?l21 ?c21 ?k21 ?a22 ?l22 ?c22 ?k22 ?a23 ?l23 ?c23 ?k23 ?a24 ?l24 ?c24 ?k24 ?a25 ?l25 ?c25 ?k25 ?a26 ?l26 ?c26 ?k26 ?a27 ?l27 ?c27 ?k27 ?a28 ?l28 ?c28 ?k28 ?a29 ?l29 ?c29 ?k29 ?a30 ?l30 ?c30 ?k30 ?a31 ?l31 ?c31 ?k31 ?a32 ?l32 ?c32 ?k32 ?a33 ?l33 ?c33 ?k33 ?a34 ?l34 ?c34 ?k34 ?a35 ?l35 ?c35 ?k35 ?a36 ?l36 ?c36 ?k36 ?a37 ?l37 ?c37 ?k37 ?a38 ?l38 ?c38 ?k38 ?a39 ?l39 ?c39 ?k39 ?a40 ?l40 ?c40 ?k40 ?a41 ?l41 ?c41 ?k41 ?a42 ?l42 ?c42 ?k42 ?a43 ?l43 ?c43 ?k43 ?z_all ?z_bool ?z_dict ?z_enumerate ?z_int ?z_isinstance ?z_len ?z_list ?z_max ?z_range ?z_sorted ?z_str ?z_tuple ?z_zip ?ca_SIDES ?cl_SIDES ?cz_SIDES ?cv_SIDES ?ca_WORDS ?cl_WORDS ?ck_WORDS ?ce_WORDS_0 ?cr_WORDS_0 ?ce_WORDS_1 ?cr_WORDS_1 ?ce_WORDS_2 ?cr_WORDS_2
    (case a0 => k_is)
    (case l0 => k_is)
    (case c0 => k_is)
    (case k0 => k_is)
    (case a1 => k_is)
    (case l1 => k_is)
    (case c1 => k_is)
    (case k1 => k_is)
    (case a2 => k_is)
    (case l2 => k_is)
    (case c2 => k_is)
    (case k2 => k_is)
    (case a3 => k_is)
    (case l3 => k_is)
    (case c3 => k_is)
    (case k3 => k_is)
    (case a4 => k_is)
    (case l4 => k_is)
    (case c4 => k_is)
    (case k4 => k_is)
    (case a5 => k_is)
    (case l5 => k_is)
    (case c5 => k_is)
    (case k5 => k_is)
    (case a6 => k_is)
    (case l6 => k_is)
    (case c6 => k_is)
    (case k6 => k_is)
    (case a7 => k_is)
    (case l7 => k_is)
    (case c7 => k_is)
    (case k7 => k_is)
    (case a8 => k_is)
    (case l8 => k_is)
    (case c8 => k_is)
    (case k8 => k_is)
    (case a9 => k_is)
    (case l9 => k_is)
    (case c9 => k_is)
    (case k9 => k_is)
    (case a10 => k_is)
    (case l10 => k_is)
    (case c10 => k_is)
    (case k10 => k_is)
    (case a11 => k_is)
    (case l11 => k_is)
    (case c11 => k_is)
    (case k11 => k_is)
    (case a12 => k_is)
    (case l12 => k_is)
    (case c12 => k_is)
    (case k12 => k_is)
    (case a13 => k_is)
    (case l13 => k_is)
    (case c13 => k_is)
    (case k13 => k_is)
    (case a14 => k_is)
    (case l14 => k_is)
    (case c14 => k_is)
    (case k14 => k_is)
    (case a15 => k_is)
    (case l15 => k_is)
    (case c15 => k_is)
    (case k15 => k_is)
    (case a16 => k_is)
    (case l16 => k_is)
    (case c16 => k_is)
    (case k16 => k_is)
    (case a17 => k_is)
    (case l17 => k_is)
    (case c17 => k_is)
    (case k17 => k_is)
    (case a18 => k_is)
    (case l18 => k_is)
    (case c18 => k_is)
    (case k18 => k_is)
    (case a19 => k_is)
    (case l19 => k_is)
    (case c19 => k_is)
    (case k19 => k_is)
    (case a20 => k_is)
    (case l20 => k_is)
    (case c20 => k_is)
    (case k20 => k_is)
    (case a21 => k_is)
    (case l21 => k_is)
    (case c21 => k_is)
    (case k21 => k_is)
    (case a22 => k_is)
    (case l22 => k_is)
    (case c22 => k_is)
    (case k22 => k_is)
    (case a23 => k_is)
    (case l23 => k_is)
    (case c23 => k_is)
    (case k23 => k_is)
    (case a24 => k_is)
    (case l24 => k_is)
    (case c24 => k_is)
    (case k24 => k_is)
    (case a25 => k_is)
    (case l25 => k_is)
    (case c25 => k_is)
    (case k25 => k_is)
    (case a26 => k_is)
    (case l26 => k_is)
    (case c26 => k_is)
    (case k26 => k_is)
    (case a27 => k_is)
    (case l27 => k_is)
    (case c27 => k_is)
    (case k27 => k_is)
    (case a28 => k_is)
    (case l28 => k_is)
    (case c28 => k_is)
    (case k28 => k_is)
    (case a29 => k_is)
    (case l29 => k_is)
    (case c29 => k_is)
    (case k29 => k_is)
    (case a30 => k_is)
    (case l30 => k_is)
    (case c30 => k_is)
    (case k30 => k_is)
    (case a31 => k_is)
    (case l31 => k_is)
    (case c31 => k_is)
    (case k31 => k_is)
    (case a32 => k_is)
    (case l32 => k_is)
    (case c32 => k_is)
    (case k32 => k_is)
    (case a33 => k_is)
    (case l33 => k_is)
    (case c33 => k_is)
    (case k33 => k_is)
    (case a34 => k_is)
    (case l34 => k_is)
    (case c34 => k_is)
    (case k34 => k_is)
    (case a35 => k_is)
    (case l35 => k_is)
    (case c35 => k_is)
    (case k35 => k_is)
    (case a36 => k_is)
    (case l36 => k_is)
    (case c36 => k_is)
    (case k36 => k_is)
    (case a37 => k_is)
    (case l37 => k_is)
    (case c37 => k_is)
    (case k37 => k_is)
    (case a38 => k_is)
    (case l38 => k_is)
    (case c38 => k_is)
    (case k38 => k_is)
    (case a39 => k_is)
    (case l39 => k_is)
    (case c39 => k_is)
    (case k39 => k_is)
    (case a40 => k_is)
    (case l40 => k_is)
    (case c40 => k_is)
    (case k40 => k_is)
    (case a41 => k_is)
    (case l41 => k_is)
    (case c41 => k_is)
    (case k41 => k_is)
    (case a42 => k_is)
    (case l42 => k_is)
    (case c42 => k_is)
    (case k42 => k_is)
    (case a43 => k_is)
    (case l43 => k_is)
    (case c43 => k_is)
    (case k43 => k_is)
    (case z_all => k_is)
    (case z_bool => k_is)
    (case z_dict => k_is)
    (case z_enumerate => k_is)
    (case z_int => k_is)
    (case z_isinstance => k_is)
    (case z_len => k_is)
    (case z_list => k_is)
    (case z_max => k_is)
    (case z_range => k_is)
    (case z_sorted => k_is)
    (case z_str => k_is)
    (case z_tuple => k_is)
    (case z_zip => k_is)
    (case ca_SIDES => k_is)
    (case cl_SIDES => k_is)
    (case cz_SIDES => decide)
    (case cv_SIDES => exact (.cons (by first | rfl | exact ⟨_, rfl⟩) (.cons (by first | rfl | exact ⟨_, rfl⟩) .nil)))
    (case ca_WORDS => k_is)
    (case cl_WORDS => k_is)
    (case ck_WORDS => exact ⟨⟨_, _, rfl, rfl⟩, ⟨_, _, rfl, rfl⟩, ⟨_, _, rfl, rfl⟩, trivial⟩)
    (case ce_WORDS_0 => k_is)
    (case cr_WORDS_0 => first | rfl | exact ⟨_, rfl⟩)
    (case ce_WORDS_1 => k_is)
    (case cr_WORDS_1 => first | rfl | exact ⟨_, rfl⟩)
    (case ce_WORDS_2 => k_is)
    (case cr_WORDS_2 => first | rfl | exact ⟨_, rfl⟩)
