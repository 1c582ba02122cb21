import PyProof.Rows.All
import Wide.All
import OpenK.AllK
import Wide.FinOn
import HandS.ForMost
import HandS.ForExc
import HandS.Walk
import KE.GoesMore
import HandS.Deep
import HandS.TupAny
import HandS.TupMul
import HandS.IsInst
import HandS.WideBits
import HandS.SetFor
import HandS.Style
import KE.DataCmp
import KE.SortData
import HandS.Strs
import PyProof.CollectIter
import PyProof.EqAt
import PyProof.EqKinds
import PyProof.TupleCall
import Open.SpecLaws
import KE.OsGo
import HandS.ForSpec
import KE.KExcInit
import HandS.SortInts
import HandS.Conv
import PySem.Challenge.RW_turnedasks_k26_whole_changes_by_plain_ru
set_option Elab.async false
set_option linter.all false
set_option maxRecDepth 100000
set_option maxHeartbeats 8000000
/-! Plain data, and how it lies in the heap. -/
namespace Pyp
open PySem L2

inductive D where
  | non | bl (b : Bool) | int (i : Int) | str (x : List Nat) | tup (ds : List D) | lst (ds : List D) | dic (ks vs : List D) | fz (ns : List Int)
  deriving Inhabited

/-- a value at hand: data | a list or dict just made | one that a local name alone holds, looked at | a cell that is handed on by name -/
inductive Val where
  | d (x : D) | own (x : D) | bor (x : D) | ref (n : Nat)
  deriving Inhabited

abbrev PH := List D
abbrev Env := List (Option Val)

inductive Res (α : Type) where
  | ok (a : α) (ph : PH) | exc (c : Str) (fs : List (Str × D)) (ph : PH) | bad

/-! ### data in the heap -/
def WrT (K : PySem.W.Frag) (a : Addr) (xs : List V) : Prop :=
  ∃ (o : Obj) (its : Array Value) (n : Nat), K.lookup a = some o ∧ o.cls = .type "tuple" ∧ o.data = .seq its n ∧ its.size ≤ sizeLine ∧ Vals xs its.toList
def WrL (K : PySem.W.Frag) (a : Addr) (xs : List V) : Prop :=
  ∃ (o : Obj) (its : Array Value) (n : Nat), K.lookup a = some o ∧ o.cls = .type "list" ∧ o.dict = none ∧ o.data = .seq its n ∧ its.size ≤ sizeLine ∧ Vals xs its.toList
/-- the law's input: a list that is only read -/
def FzAt (K : PySem.W.Frag) (M : Addr → Prop) (H : Hp) (a : Addr) (xs : List V) : Prop := (¬ M a ∧ Rd H a (.lst xs)) ∨ WrL K a xs
theorem FzAt.sq {K M H a xs} (h : FzAt K M H a xs) : SqL K H a xs := h.elim (fun h => .inl h.2) .inr
def TupAt (K : PySem.W.Frag) (M : Addr → Prop) (H : Hp) (a : Addr) (xs : List V) : Prop := (¬ M a ∧ Rd H a (.tup xs)) ∨ WrT K a xs
def LstAt (K : PySem.W.Frag) (M : Addr → Prop) (H : Hp) (a : Addr) (xs : List V) : Prop := ¬ M a ∧ H a = some (.lst xs)
theorem TupAt.sq {K M H a xs} (h : TupAt K M H a xs) : SqT K H a xs := h.elim (fun h => .inl h.2) .inr
theorem LstAt.sq {K M H a xs} (h : LstAt K M H a xs) : SqL K H a xs := SqL.of h.2

def keyOf : D → Option Key
  | .int i => some (.inl i)
  | .str x => some (.inr ⟨x.toArray⟩)
  | _ => none

mutual
def Rep (K : PySem.W.Frag) (M : Addr → Prop) (H : Hp) : D → V → Prop
  | .non, v => v = .non
  | .bl b, v => v = .bl b
  | .int i, v => v = .int i
  | .str x, v => v = .str ⟨x.toArray⟩
  | .fz ns, v => ∃ a, v = .ref a ∧ FzAt K M H a (ns.map V.int)
  | .tup ds, v => ∃ a xs, v = .ref a ∧ TupAt K M H a xs ∧ Reps K M H ds xs
  | .lst ds, v => ∃ a xs, v = .ref a ∧ LstAt K M H a xs ∧ Reps K M H ds xs
  | .dic ks vs, v => ∃ a kvs, v = .ref a ∧ (¬ M a ∧ H a = some (.dK kvs)) ∧ ks.map keyOf = kvs.map (fun p => some p.1) ∧ Reps K M H vs (kvs.map (·.2))
def Reps (K : PySem.W.Frag) (M : Addr → Prop) (H : Hp) : List D → List V → Prop
  | [], xs => xs = []
  | d :: ds, xs => ∃ v vs, xs = v :: vs ∧ Rep K M H d v ∧ Reps K M H ds vs
end

/-- what is not written over stays -/
def KeepP (M : Addr → Prop) (H H' : Hp) : Prop := ∀ b o, H b = some o → ¬ M b → H' b = some o
theorem KeepP.rd {M : Addr → Prop} {H H' : Hp} {a : Addr} {u : HO} (k : KeepP M H H') (n : ¬ M a) (h : Rd H a u) : Rd H' a u :=
  h.elim (fun h => .inl (k a _ h n)) (fun ⟨o, h⟩ => .inr ⟨o, k a _ h n⟩)
theorem TupAt.keep {K M H H' a xs} (k : KeepP M H H') (h : TupAt K M H a xs) : TupAt K M H' a xs := h.elim (fun h => .inl ⟨h.1, k.rd h.1 h.2⟩) .inr
theorem FzAt.keep {K M H H' a xs} (k : KeepP M H H') (h : FzAt K M H a xs) : FzAt K M H' a xs := h.elim (fun h => .inl ⟨h.1, k.rd h.1 h.2⟩) .inr
theorem FzAt.anti {K H a xs} {M M' : Addr → Prop} (k : ∀ a, M' a → M a) (h : FzAt K M H a xs) : FzAt K M' H a xs := h.elim (fun h => .inl ⟨fun z => h.1 (k _ z), h.2⟩) .inr
theorem LstAt.keep {K M H H' a xs} (k : KeepP M H H') (h : LstAt K M H a xs) : LstAt K M H' a xs := ⟨h.1, k _ _ h.2 h.1⟩
theorem TupAt.anti {K H a xs} {M M' : Addr → Prop} (k : ∀ a, M' a → M a) (h : TupAt K M H a xs) : TupAt K M' H a xs := h.elim (fun h => .inl ⟨fun z => h.1 (k _ z), h.2⟩) .inr
theorem LstAt.anti {K H a xs} {M M' : Addr → Prop} (k : ∀ a, M' a → M a) (h : LstAt K M H a xs) : LstAt K M' H a xs := ⟨fun z => h.1 (k _ z), h.2⟩

mutual
theorem Rep.keep {K : PySem.W.Frag} {M : Addr → Prop} {H H' : Hp} (k : KeepP M H H') : ∀ (d : D) (v : V), Rep K M H d v → Rep K M H' d v
  | .non, v, h => by simpa [Rep] using h
  | .bl b, v, h => by simpa [Rep] using h
  | .int i, v, h => by simpa [Rep] using h
  | .str x, v, h => by simpa [Rep] using h
  | .fz ns, v, h => by
    rw [Rep] at h ⊢
    obtain ⟨a, e, t⟩ := h
    exact ⟨a, e, t.keep k⟩
  | .tup ds, v, h => by
    rw [Rep] at h ⊢
    obtain ⟨a, xs, e, t, r⟩ := h
    exact ⟨a, xs, e, t.keep k, Reps.keep k ds xs r⟩
  | .lst ds, v, h => by
    rw [Rep] at h ⊢
    obtain ⟨a, xs, e, t, r⟩ := h
    exact ⟨a, xs, e, t.keep k, Reps.keep k ds xs r⟩
  | .dic ks vs, v, h => by
    rw [Rep] at h ⊢
    obtain ⟨a, kvs, e, ⟨n, t⟩, q, r⟩ := h
    exact ⟨a, kvs, e, ⟨n, k _ _ t n⟩, q, Reps.keep k vs _ r⟩
theorem Reps.keep {K : PySem.W.Frag} {M : Addr → Prop} {H H' : Hp} (k : KeepP M H H') : ∀ (ds : List D) (xs : List V), Reps K M H ds xs → Reps K M H' ds xs
  | [], xs, h => by simpa [Reps] using h
  | d :: ds, xs, h => by
    rw [Reps] at h ⊢
    obtain ⟨v, vs, e, r, rs⟩ := h
    exact ⟨v, vs, e, Rep.keep k d v r, Reps.keep k ds vs rs⟩
end
mutual
theorem Rep.anti {K : PySem.W.Frag} {M M' : Addr → Prop} {H : Hp} (k : ∀ a, M' a → M a) : ∀ (d : D) (v : V), Rep K M H d v → Rep K M' H d v
  | .non, v, h => by simpa [Rep] using h
  | .bl b, v, h => by simpa [Rep] using h
  | .int i, v, h => by simpa [Rep] using h
  | .str x, v, h => by simpa [Rep] using h
  | .fz ns, v, h => by
    rw [Rep] at h ⊢
    obtain ⟨a, e, t⟩ := h
    exact ⟨a, e, t.anti k⟩
  | .tup ds, v, h => by
    rw [Rep] at h ⊢
    obtain ⟨a, xs, e, t, r⟩ := h
    exact ⟨a, xs, e, t.anti k, Reps.anti k ds xs r⟩
  | .lst ds, v, h => by
    rw [Rep] at h ⊢
    obtain ⟨a, xs, e, t, r⟩ := h
    exact ⟨a, xs, e, t.anti k, Reps.anti k ds xs r⟩
  | .dic ks vs, v, h => by
    rw [Rep] at h ⊢
    obtain ⟨a, kvs, e, ⟨n, t⟩, q, r⟩ := h
    exact ⟨a, kvs, e, ⟨fun z => n (k _ z), t⟩, q, Reps.anti k vs _ r⟩
theorem Reps.anti {K : PySem.W.Frag} {M M' : Addr → Prop} {H : Hp} (k : ∀ a, M' a → M a) : ∀ (ds : List D) (xs : List V), Reps K M H ds xs → Reps K M' H ds xs
  | [], xs, h => by simpa [Reps] using h
  | d :: ds, xs, h => by
    rw [Reps] at h ⊢
    obtain ⟨v, vs, e, r, rs⟩ := h
    exact ⟨v, vs, e, Rep.anti k d v r, Reps.anti k ds vs rs⟩
end
theorem rd_ne {H : Hp} {a p : Addr} {u : HO} (h : Rd H a u) (hp : H p = none) : a ≠ p := fun e => by
  subst e
  rcases h with h | ⟨o, h⟩ <;> (rw [hp] at h; cases h)
/-- one address more that may be written -/
def MAdd (M : Addr → Prop) (p : Addr) : Addr → Prop := fun a => M a ∨ a = p
theorem TupAt.fresh {K M H a xs} {p : Addr} (hp : H p = none) (h : TupAt K M H a xs) : TupAt K (MAdd M p) H a xs := h.elim (fun h => .inl ⟨fun z => z.elim h.1 (rd_ne h.2 hp), h.2⟩) .inr
theorem FzAt.fresh {K M H a xs} {p : Addr} (hp : H p = none) (h : FzAt K M H a xs) : FzAt K (MAdd M p) H a xs := h.elim (fun h => .inl ⟨fun z => z.elim h.1 (rd_ne h.2 hp), h.2⟩) .inr
theorem LstAt.fresh {K M H a xs} {p : Addr} (hp : H p = none) (h : LstAt K M H a xs) : LstAt K (MAdd M p) H a xs := ⟨fun z => z.elim h.1 (ne_of_none h.2 hp), h.2⟩
mutual
theorem Rep.fresh {K : PySem.W.Frag} {M : Addr → Prop} {H : Hp} {p : Addr} (hp : H p = none) : ∀ (d : D) (v : V), Rep K M H d v → Rep K (MAdd M p) H d v
  | .non, v, h => by simpa [Rep] using h
  | .bl b, v, h => by simpa [Rep] using h
  | .int i, v, h => by simpa [Rep] using h
  | .str x, v, h => by simpa [Rep] using h
  | .fz ns, v, h => by
    rw [Rep] at h ⊢
    obtain ⟨a, e, t⟩ := h
    exact ⟨a, e, t.fresh hp⟩
  | .tup ds, v, h => by
    rw [Rep] at h ⊢
    obtain ⟨a, xs, e, t, r⟩ := h
    exact ⟨a, xs, e, t.fresh hp, Reps.fresh hp ds xs r⟩
  | .lst ds, v, h => by
    rw [Rep] at h ⊢
    obtain ⟨a, xs, e, t, r⟩ := h
    exact ⟨a, xs, e, t.fresh hp, Reps.fresh hp ds xs r⟩
  | .dic ks vs, v, h => by
    rw [Rep] at h ⊢
    obtain ⟨a, kvs, e, ⟨n, t⟩, q, r⟩ := h
    exact ⟨a, kvs, e, ⟨fun z => z.elim n (ne_of_none t hp), t⟩, q, Reps.fresh hp vs _ r⟩
theorem Reps.fresh {K : PySem.W.Frag} {M : Addr → Prop} {H : Hp} {p : Addr} (hp : H p = none) : ∀ (ds : List D) (xs : List V), Reps K M H ds xs → Reps K (MAdd M p) H ds xs
  | [], xs, h => by simpa [Reps] using h
  | d :: ds, xs, h => by
    rw [Reps] at h ⊢
    obtain ⟨v, vs, e, r, rs⟩ := h
    exact ⟨v, vs, e, Rep.fresh hp d v r, Reps.fresh hp ds vs rs⟩
end
theorem Reps.length {K : PySem.W.Frag} {M : Addr → Prop} {H : Hp} : ∀ {ds : List D} {xs : List V}, Reps K M H ds xs → xs.length = ds.length
  | [], xs, h => by rw [Reps] at h; subst h; rfl
  | d :: ds, xs, h => by
    rw [Reps] at h
    obtain ⟨v, vs, rfl, _, rs⟩ := h
    simp [Reps.length rs]
theorem Reps.nil {K : PySem.W.Frag} {M : Addr → Prop} {H : Hp} : Reps K M H [] [] := by rw [Reps]
theorem Reps.cons {K : PySem.W.Frag} {M : Addr → Prop} {H : Hp} {d : D} {ds : List D} {v : V} {vs : List V} (h : Rep K M H d v) (t : Reps K M H ds vs) : Reps K M H (d :: ds) (v :: vs) := by
  rw [Reps]; exact ⟨v, vs, rfl, h, t⟩
theorem Reps.append {K : PySem.W.Frag} {M : Addr → Prop} {H : Hp} : ∀ {ds es : List D} {xs ys : List V}, Reps K M H ds xs → Reps K M H es ys → Reps K M H (ds ++ es) (xs ++ ys)
  | [], es, xs, ys, h, t => by rw [Reps] at h; subst h; exact t
  | d :: ds, es, xs, ys, h, t => by
    rw [Reps] at h
    obtain ⟨v, vs, rfl, r, rs⟩ := h
    exact .cons r (Reps.append rs t)
theorem Reps.get {K : PySem.W.Frag} {M : Addr → Prop} {H : Hp} : ∀ {ds : List D} {xs : List V} {i : Nat} {d : D}, Reps K M H ds xs → ds[i]? = some d → ∃ v, xs[i]? = some v ∧ Rep K M H d v
  | [], xs, i, d, h, e => by simp at e
  | d :: ds, xs, 0, d', h, e => by
    rw [Reps] at h
    obtain ⟨v, vs, rfl, r, rs⟩ := h
    simp at e; subst e
    exact ⟨v, rfl, r⟩
  | d :: ds, xs, i + 1, d', h, e => by
    rw [Reps] at h
    obtain ⟨v, vs, rfl, r, rs⟩ := h
    obtain ⟨u, h1, h2⟩ := Reps.get (i := i) rs (by simpa using e)
    exact ⟨u, by simpa using h1, h2⟩
theorem Reps.get' {K : PySem.W.Frag} {M : Addr → Prop} {H : Hp} {ds : List D} {xs : List V} {i : Nat} {v : V} (h : Reps K M H ds xs) (e : xs[i]? = some v) : ∃ d, ds[i]? = some d ∧ Rep K M H d v := by
  have hl := h.length
  have hi := (List.getElem?_eq_some_iff.mp e).1
  have hd : ds[i]? = some ds[i] := List.getElem?_eq_getElem (by omega)
  obtain ⟨u, h1, h2⟩ := h.get hd
  rw [e] at h1; cases h1
  exact ⟨_, hd, h2⟩
theorem Reps.take {K : PySem.W.Frag} {M : Addr → Prop} {H : Hp} : ∀ {ds : List D} {xs : List V} (n : Nat), Reps K M H ds xs → Reps K M H (ds.take n) (xs.take n)
  | ds, xs, 0, h => by simpa using Reps.nil
  | [], xs, n + 1, h => by rw [Reps] at h; subst h; simpa using Reps.nil
  | d :: ds, xs, n + 1, h => by
    rw [Reps] at h
    obtain ⟨v, vs, rfl, r, rs⟩ := h
    exact .cons r (rs.take n)
theorem Reps.drop {K : PySem.W.Frag} {M : Addr → Prop} {H : Hp} : ∀ {ds : List D} {xs : List V} (n : Nat), Reps K M H ds xs → Reps K M H (ds.drop n) (xs.drop n)
  | ds, xs, 0, h => h
  | [], xs, n + 1, h => by rw [Reps] at h; subst h; simpa using Reps.nil
  | d :: ds, xs, n + 1, h => by
    rw [Reps] at h
    obtain ⟨v, vs, rfl, r, rs⟩ := h
    exact rs.drop n
theorem Reps.set {K : PySem.W.Frag} {M : Addr → Prop} {H : Hp} {d : D} {v : V} (r : Rep K M H d v) : ∀ {ds : List D} {xs : List V} (n : Nat), Reps K M H ds xs → Reps K M H (ds.set n d) (xs.set n v)
  | [], xs, n, h => by rw [Reps] at h; subst h; simpa using Reps.nil
  | e :: ds, xs, 0, h => by
    rw [Reps] at h
    obtain ⟨w, vs, rfl, q, rs⟩ := h
    exact .cons r rs
  | e :: ds, xs, n + 1, h => by
    rw [Reps] at h
    obtain ⟨w, vs, rfl, q, rs⟩ := h
    exact .cons q (rs.set r n)

/-! ### what is mutable -/
def Cont (K : PySem.W.Frag) (M : Addr → Prop) (H : Hp) (a : Addr) : D → Prop
  | .lst ds => ∃ xs, H a = some (.lst xs) ∧ Reps K M H ds xs
  | .dic ks vs => ∃ kvs, H a = some (.dK kvs) ∧ ks.map keyOf = kvs.map (fun p => some p.1) ∧ Reps K M H vs (kvs.map (·.2))
  | _ => False
/-- content as it may be read just now -/
def CR (K : PySem.W.Frag) (M : Addr → Prop) (H : Hp) : D → V → Prop
  | .lst ds, v => ∃ a xs, v = .ref a ∧ H a = some (.lst xs) ∧ Reps K M H ds xs
  | .dic ks vs, v => ∃ a kvs, v = .ref a ∧ H a = some (.dK kvs) ∧ ks.map keyOf = kvs.map (fun p => some p.1) ∧ Reps K M H vs (kvs.map (·.2))
  | d, v => Rep K M H d v
theorem Rep.cr {K : PySem.W.Frag} {M : Addr → Prop} {H : Hp} : ∀ {d : D} {v : V}, Rep K M H d v → CR K M H d v
  | .non, v, h => h
  | .bl b, v, h => h
  | .int i, v, h => h
  | .str x, v, h => h
  | .fz ns, v, h => h
  | .tup ds, v, h => h
  | .lst ds, v, h => by
    rw [Rep] at h
    obtain ⟨a, xs, e, t, r⟩ := h
    exact ⟨a, xs, e, t.2, r⟩
  | .dic ks vs, v, h => by
    rw [Rep] at h
    obtain ⟨a, kvs, e, ⟨n, t⟩, q, r⟩ := h
    exact ⟨a, kvs, e, t, q, r⟩
theorem Cont.cr {K : PySem.W.Frag} {M : Addr → Prop} {H : Hp} {a : Addr} : ∀ {d : D}, Cont K M H a d → CR K M H d (.ref a)
  | .non, h => h.elim
  | .bl b, h => h.elim
  | .int i, h => h.elim
  | .str x, h => h.elim
  | .fz x, h => h.elim
  | .tup ds, h => h.elim
  | .lst ds, h => by
    obtain ⟨xs, e, r⟩ := h
    exact ⟨a, xs, rfl, e, r⟩
  | .dic ks vs, h => by
    obtain ⟨kvs, e, q, r⟩ := h
    exact ⟨a, kvs, rfl, e, q, r⟩
theorem Cont.keep {K : PySem.W.Frag} {M : Addr → Prop} {H H' : Hp} {a : Addr} (k : KeepP M H H') (ka : ∀ o, H a = some o → H' a = some o) : ∀ {d : D}, Cont K M H a d → Cont K M H' a d
  | .non, h => h.elim
  | .bl b, h => h.elim
  | .int i, h => h.elim
  | .str x, h => h.elim
  | .fz x, h => h.elim
  | .tup ds, h => h.elim
  | .lst ds, h => by
    obtain ⟨xs, e, r⟩ := h
    exact ⟨xs, ka _ e, Reps.keep k _ _ r⟩
  | .dic ks vs, h => by
    obtain ⟨kvs, e, q, r⟩ := h
    exact ⟨kvs, ka _ e, q, Reps.keep k _ _ r⟩
theorem Cont.anti {K : PySem.W.Frag} {M M' : Addr → Prop} {H : Hp} {a : Addr} (k : ∀ a, M' a → M a) : ∀ {d : D}, Cont K M H a d → Cont K M' H a d
  | .non, h => h.elim
  | .bl b, h => h.elim
  | .int i, h => h.elim
  | .str x, h => h.elim
  | .fz x, h => h.elim
  | .tup ds, h => h.elim
  | .lst ds, h => by
    obtain ⟨xs, e, r⟩ := h
    exact ⟨xs, e, Reps.anti k _ _ r⟩
  | .dic ks vs, h => by
    obtain ⟨kvs, e, q, r⟩ := h
    exact ⟨kvs, e, q, Reps.anti k _ _ r⟩
theorem Cont.fresh {K : PySem.W.Frag} {M : Addr → Prop} {H : Hp} {a p : Addr} (hp : H p = none) : ∀ {d : D}, Cont K M H a d → Cont K (MAdd M p) H a d
  | .non, h => h.elim
  | .bl b, h => h.elim
  | .int i, h => h.elim
  | .str x, h => h.elim
  | .fz x, h => h.elim
  | .tup ds, h => h.elim
  | .lst ds, h => by
    obtain ⟨xs, e, r⟩ := h
    exact ⟨xs, e, Reps.fresh hp _ _ r⟩
  | .dic ks vs, h => by
    obtain ⟨kvs, e, q, r⟩ := h
    exact ⟨kvs, e, q, Reps.fresh hp _ _ r⟩
theorem Cont.some {K : PySem.W.Frag} {M : Addr → Prop} {H : Hp} {a : Addr} : ∀ {d : D}, Cont K M H a d → ∃ o, H a = some o
  | .non, h => h.elim
  | .bl b, h => h.elim
  | .int i, h => h.elim
  | .str x, h => h.elim
  | .fz x, h => h.elim
  | .tup ds, h => h.elim
  | .lst ds, h => let ⟨_, e, _⟩ := h; ⟨_, e⟩
  | .dic ks vs, h => let ⟨_, e, _⟩ := h; ⟨_, e⟩
/-- a made list or dict that nobody will write any more is data -/
theorem Cont.rep {K : PySem.W.Frag} {M : Addr → Prop} {H : Hp} {a : Addr} (n : ¬ M a) : ∀ {d : D}, Cont K M H a d → Rep K M H d (.ref a)
  | .non, h => h.elim
  | .bl b, h => h.elim
  | .int i, h => h.elim
  | .str x, h => h.elim
  | .fz x, h => h.elim
  | .tup ds, h => h.elim
  | .lst ds, h => by
    obtain ⟨xs, e, r⟩ := h
    rw [Rep]
    exact ⟨a, xs, rfl, ⟨n, e⟩, r⟩
  | .dic ks vs, h => by
    obtain ⟨kvs, e, q, r⟩ := h
    rw [Rep]
    exact ⟨a, kvs, rfl, ⟨n, e⟩, q, r⟩

/-! ### the world of a def: cells at m, M: what is not to be shared -/
structure Rel (K : PySem.W.Frag) (M : Addr → Prop) (m : List Addr) (H : Hp) (ph : PH) : Prop where
  len : m.length = ph.length
  nd : m.Nodup
  sub : ∀ a ∈ m, M a
  dom : ∀ a, M a → ∃ o, H a = some o
  cont : ∀ (n : Nat) (a : Addr) (d : D), m[n]? = some a → ph[n]? = some d → Cont K M H a d
def Frame (m : List Addr) (H H' : Hp) : Prop := ∀ a o, H a = some o → a ∉ m → H' a = some o
theorem Frame.refl {m : List Addr} {H : Hp} : Frame m H H := fun _ _ h _ => h
theorem Frame.trans {m : List Addr} {H H1 H2 : Hp} (f : Frame m H H1) (g : Frame m H1 H2) : Frame m H H2 := fun a o h n => g a o (f a o h n) n
theorem Frame.keep {K M m H ph} {H0 H' : Hp} (f : Frame m H0 H') (r : Rel K M m H ph) : KeepP M H0 H' := fun b o h n => f b o h fun z => n (r.sub b z)
theorem Frame.back {K M m H H' ph} (f : Frame m H H') (r : Rel K M m H' ph) {p : Addr} (h : H' p = none) : H p = none := by
  cases q : H p with
  | none => rfl
  | some o =>
    by_cases hm : p ∈ m
    · obtain ⟨u, e⟩ := r.dom p (r.sub p hm)
      rw [h] at e; cases e
    · rw [f p o q hm] at h; cases h
theorem Frame.new {m : List Addr} {H : Hp} {p : Addr} {o : HO} (h : H p = none) : Frame m H (upd H p o) := fun a u e _ => by
  rw [upd_ne (ne_of_none e h)]; exact e
theorem keep_new {M : Addr → Prop} {H : Hp} {p : Addr} {o : HO} (h : H p = none) : KeepP M H (upd H p o) := fun a u e _ => by
  rw [upd_ne (ne_of_none e h)]; exact e
theorem Rel.new {K M m H ph} {p : Addr} {o : HO} (r : Rel K M m H ph) (h : H p = none) : Rel K M m (upd H p o) ph where
  len := r.len
  nd := r.nd
  sub := r.sub
  dom := fun a z => by
    obtain ⟨u, e⟩ := r.dom a z
    exact ⟨u, by rw [upd_ne (ne_of_none e h)]; exact e⟩
  cont := fun n a d e1 e2 => (r.cont n a d e1 e2).keep (keep_new h) fun u e => by rw [upd_ne (ne_of_none e h)]; exact e
theorem Rel.notM {K M m H ph} {p : Addr} (r : Rel K M m H ph) (h : H p = none) : ¬ M p := fun z => by
  obtain ⟨o, e⟩ := r.dom p z
  rw [h] at e; cases e

/-- a value at hand; H0: the heap when its making began -/
def RV (K : PySem.W.Frag) (M : Addr → Prop) (m : List Addr) (H0 H : Hp) (v : V) : Val → Prop
  | .d x => Rep K M H x v
  | .own x => ∃ a, v = .ref a ∧ H0 a = none ∧ ¬ M a ∧ Cont K M H a x
  | .bor x => ∃ a, v = .ref a ∧ M a ∧ a ∉ m ∧ Cont K M H a x
  | .ref n => ∃ a, m[n]? = some a ∧ v = .ref a
theorem RV.keep {K M m H0 H H' ph v} (r : Rel K M m H ph) (f : Frame m H H') : ∀ {x : Val}, RV K M m H0 H v x → RV K M m H0 H' v x
  | .d x, h => Rep.keep (f.keep r) x v h
  | .own x, ⟨a, e, n, nm, c⟩ => ⟨a, e, n, nm, c.keep (f.keep r) fun o z => f a o z fun q => nm (r.sub a q)⟩
  | .bor x, ⟨a, e, n, nm, c⟩ => ⟨a, e, n, nm, c.keep (f.keep r) fun o z => f a o z nm⟩
  | .ref n, h => h
theorem RV.base {K M m H0 H1 H v} (f : ∀ p, H1 p = none → H0 p = none) : ∀ {x : Val}, RV K M m H1 H v x → RV K M m H0 H v x
  | .d x, h => h
  | .own x, ⟨a, e, n, nm, c⟩ => ⟨a, e, f a n, nm, c⟩
  | .bor x, h => h
  | .ref n, h => h

def Val.cont (ph : PH) : Val → Option D
  | .d x => some x
  | .own x => some x
  | .bor x => some x
  | .ref n => ph[n]?
/-- what may be kept -/
def Val.dat : Val → Option D
  | .d x => some x
  | .own x => some x
  | _ => none
theorem RV.cr {K M m H0 H ph v d} (r : Rel K M m H ph) : ∀ {x : Val}, RV K M m H0 H v x → x.cont ph = some d → CR K M H d v
  | .d x, h, e => by cases e; exact Rep.cr h
  | .own x, ⟨a, e1, n, nm, c⟩, e => by cases e; subst e1; exact c.cr
  | .bor x, ⟨a, e1, n, nm, c⟩, e => by cases e; subst e1; exact c.cr
  | .ref n, ⟨a, e1, e2⟩, e => by subst e2; exact (r.cont n a d e1 e).cr
theorem RV.dat {K M m H0 H v d} : ∀ {x : Val}, RV K M m H0 H v x → x.dat = some d → Rep K M H d v
  | .d x, h, e => by cases e; exact h
  | .own x, ⟨a, e1, n, nm, c⟩, e => by cases e; subst e1; exact c.rep nm
  | .bor x, h, e => by cases e
  | .ref n, h, e => by cases e

/-- the slots -/
def SlotR (K : PySem.W.Frag) (M : Addr → Prop) (m : List Addr) (H : Hp) (v : V) : Val → Prop
  | .d x => Rep K M H x v
  | .own x => ∃ a, v = .ref a ∧ M a ∧ a ∉ m ∧ Cont K M H a x
  | .bor _ => False
  | .ref n => ∃ a, m[n]? = some a ∧ v = .ref a
def EnvR (K : PySem.W.Frag) (M : Addr → Prop) (m : List Addr) (σ : L2.St) (H : Hp) (env : Env) : Prop :=
  env.length = σ.length ∧ ∀ (i : Nat) (x : Val), env[i]? = some (some x) → ∃ v, σ[i]? = some (some v) ∧ SlotR K M m H v x
theorem SlotR.keep {K M m H H' ph v} (r : Rel K M m H ph) (f : Frame m H H') : ∀ {x : Val}, SlotR K M m H v x → SlotR K M m H' v x
  | .d x, h => Rep.keep (f.keep r) x v h
  | .own x, ⟨a, e, n, nm, c⟩ => ⟨a, e, n, nm, c.keep (f.keep r) fun o z => f a o z nm⟩
  | .bor x, h => h
  | .ref n, h => h
theorem EnvR.keep {K M m σ H H' ph env} (r : Rel K M m H ph) (f : Frame m H H') (e : EnvR K M m σ H env) : EnvR K M m σ H' env := ⟨e.1, fun i x h => by
  obtain ⟨v, h1, h2⟩ := e.2 i x h
  exact ⟨v, h1, h2.keep r f⟩⟩
def Val.read : Val → Val
  | .own x => .bor x
  | v => v
theorem SlotR.rv {K M m H0 H v} : ∀ {x : Val}, SlotR K M m H v x → RV K M m H0 H v x.read
  | .d x, h => h
  | .own x, h => h
  | .bor x, h => h.elim
  | .ref n, h => h

/-- a list just made is nobody else's -/
def RO (K : PySem.W.Frag) (M : Addr → Prop) (m : List Addr) (H : Hp) (ph : PH) (v : V) (x : Val) : Prop := ∀ d, x = .own d → ∀ a, v = .ref a → Rel K (MAdd M a) m H ph ∧ Cont K (MAdd M a) H a d
theorem RO.d {K M m H ph v x} : RO K M m H ph v (.d x) := fun _ e => nomatch e
theorem RO.bor {K M m H ph v x} : RO K M m H ph v (.bor x) := fun _ e => nomatch e
theorem RO.ref {K M m H ph v n} : RO K M m H ph v (.ref n) := fun _ e => nomatch e
theorem RO.read {K M m H ph v} : ∀ {x : Val}, RO K M m H ph v x.read
  | .d _ => RO.d
  | .own _ => RO.bor
  | .bor _ => RO.bor
  | .ref _ => RO.ref
theorem EnvR.newM {K M m σ H env} {p : Addr} {o : HO} (e : EnvR K M m σ H env) (h : H p = none) : EnvR K (MAdd M p) m σ (upd H p o) env := ⟨e.1, fun i x ex => by
  obtain ⟨v, h1, h2⟩ := e.2 i x ex
  refine ⟨v, h1, ?_⟩
  cases x with
  | d x => exact Rep.keep (keep_new h) _ _ (Rep.fresh h _ _ h2)
  | own x =>
    obtain ⟨a, q1, q2, q3, q4⟩ := h2
    exact ⟨a, q1, .inl q2, q3, (q4.fresh h).keep (keep_new h) fun u z => by rw [upd_ne (ne_of_none z h)]; exact z⟩
  | bor x => exact h2.elim
  | ref n => exact h2⟩
theorem Rel.newM {K M m H ph} {p : Addr} {o : HO} (r : Rel K M m H ph) (h : H p = none) : Rel K (MAdd M p) m (upd H p o) ph where
  len := r.len
  nd := r.nd
  sub := fun a z => .inl (r.sub a z)
  dom := fun a z => by
    by_cases e : a = p
    · subst e; exact ⟨o, upd_same⟩
    · obtain ⟨u, q⟩ := r.dom a (z.resolve_right e)
      exact ⟨u, by rw [upd_ne e]; exact q⟩
  cont := fun n a d e1 e2 => ((r.cont n a d e1 e2).fresh h).keep (keep_new h) fun u e => by rw [upd_ne (ne_of_none e h)]; exact e

/-- an exception: its class by name, its fields -/
def ExR (mg : Str → Option Value) (K : PySem.W.Frag) (M : Addr → Prop) (H : Hp) (c : Str) (fs : List (Str × D)) (cls : Value) (d : Option Addr) : Prop :=
  ∃ C, mg c = some (.ref C) ∧ cls = .ref C ∧ match fs with
    | [] => d = none
    | (f, x) :: _ => ∃ dd v, d = some dd ∧ H dd = some (.xd [(f, v)]) ∧ Rep K M H x v
end Pyp

/-! The judgements: a piece of Python and the plain function that it does. -/
namespace Pyp
open PySem L2

abbrev Ex := Env → PH → Res Val
abbrev Tx := Env → PH → Res Bool
abbrev Ax := Env → PH → Res (List Val)

def Res.bind {α β : Type} (r : Res α) (f : α → PH → Res β) : Res β := match r with
  | .ok a ph => f a ph
  | .exc c fs ph => .exc c fs ph
  | .bad => .bad
@[simp] theorem Res.bind_ok {α β : Type} (a : α) (ph : PH) (f : α → PH → Res β) : (Res.ok a ph).bind f = f a ph := rfl
@[simp] theorem Res.bind_exc {α β : Type} (c : Str) (fs : List (Str × D)) (ph : PH) (f : α → PH → Res β) : (Res.exc c fs ph : Res α).bind f = .exc c fs ph := rfl
@[simp] theorem Res.bind_bad {α β : Type} (f : α → PH → Res β) : (Res.bad : Res α).bind f = .bad := rfl
/-- an answer, or stuck -/
def Res.of {α : Type} (o : Option α) (ph : PH) : Res α := match o with
  | some a => .ok a ph
  | none => .bad
@[simp] theorem Res.of_some {α : Type} (a : α) (ph : PH) : Res.of (some a) ph = .ok a ph := rfl
@[simp] theorem Res.of_none {α : Type} (ph : PH) : Res.of (none : Option α) ph = .bad := rfl

section
variable (X : Cx)
def tW (e : Expr) : TE := fun σ H Q => ∀ pins s, Inv X pins σ H s → wpAny (model X.prog X.w) X.A (eval e X.env) (EP X pins σ Q) X.xe s
def tWT (e : Expr) : TT := fun σ H Q => ∀ pins s, Inv X pins σ H s → wpAny (model X.prog X.w) X.A (isTrue e X.env (eval e X.env)) (TP X pins σ Q) X.xe s
def tWA (es : List Expr) : TA := fun σ H Q => ∀ (pos : Pos) pins s, Inv X pins σ H s → wpAny (model X.prog X.w) X.A (spliced (backTo pos (starEach es X.env))) (AP X pins σ Q) X.xe s
def rW (F : Value → Value → Sem Value) : R2 := fun x y H Q => ∀ pins s σ u v, Inv X pins σ H s → RelV x u → RelV y v → wpAny (model X.prog X.w) X.A (F u v) (EP X pins σ Q) X.xe s
end
variable {X : Cx}
theorem tW_pe {e : Expr} : PE X e (tW X e) := ⟨fun pins s σ H Q I h => h pins s I⟩
theorem tW_of {e : Expr} {t : TE} {σ : L2.St} {H : Hp} {Q : VK} (h : PE X e t) (q : t σ H Q) : tW X e σ H Q := fun pins s I => h.run pins s σ H Q I q
theorem tWT_pt {e : Expr} : PT X e (tWT X e) := ⟨fun pins s σ H Q I h => h pins s I⟩
theorem tWT_of {e : Expr} {t : TT} {σ : L2.St} {H : Hp} {Q : Bool → Hp → Prop} (h : PT X e t) (q : t σ H Q) : tWT X e σ H Q := fun pins s I => h.run pins s σ H Q I q
theorem tWA_pa {es : List Expr} : PA X es (tWA X es) := ⟨fun pos pins s σ H Q I h => h pos pins s I⟩
theorem tWA_of {es : List Expr} {t : TA} {σ : L2.St} {H : Hp} {Q : List V → Hp → Prop} (h : PA X es t) (q : t σ H Q) : tWA X es σ H Q := fun pos pins s I => h.run pos pins s σ H Q I q
theorem rW_op {F : Value → Value → Sem Value} : OpR X F (rW X F) := fun pins s σ H x y u v Q I r1 r2 h => h pins s σ u v I r1 r2

/-- what an end asks: G of an answer, the wish W of an exception -/
def Post (X : Cx) (W : WX) (M : Addr → Prop) (m : List Addr) (σ : L2.St) (H : Hp) {α : Type} (G : α → PH → Prop) : Res α → Prop
  | .ok a ph => G a ph
  | .exc c fs ph => ∀ cls d H', Frame m H H' → Rel X.K M m H' ph → ExR X.mg X.K M H' c fs cls d → W cls d σ H'
  | .bad => False
theorem Post.step {W : WX} {M : Addr → Prop} {m : List Addr} {σ : L2.St} {H H1 : Hp} {α : Type} {G : α → PH → Prop} (f : Frame m H H1) : ∀ {r : Res α}, Post X W M m σ H G r → Post X W M m σ H1 G r
  | .ok _ _, h => h
  | .exc _ _ _, h => fun cls d H' f' r e => h cls d H' (f.trans f') r e
  | .bad, h => h
theorem Post.mono {W : WX} {M : Addr → Prop} {m : List Addr} {σ : L2.St} {H : Hp} {α : Type} {G G' : α → PH → Prop} (k : ∀ a ph, G a ph → G' a ph) : ∀ {r : Res α}, Post X W M m σ H G r → Post X W M m σ H G' r
  | .ok _ _, h => k _ _ h
  | .exc _ _ _, h => h
  | .bad, h => h
def GE (X : Cx) (M : Addr → Prop) (m : List Addr) (H : Hp) (Q : VK) : Val → PH → Prop := fun x ph => ∀ v H', Frame m H H' → Rel X.K M m H' ph → RV X.K M m H H' v x → RO X.K M m H' ph v x → Q v H'
def GT (X : Cx) (M : Addr → Prop) (m : List Addr) (H : Hp) (Q : Bool → Hp → Prop) : Bool → PH → Prop := fun x ph => ∀ H', Frame m H H' → Rel X.K M m H' ph → Q x H'
def RVs (K : PySem.W.Frag) (M : Addr → Prop) (m : List Addr) (H0 H : Hp) : List V → List Val → Prop
  | vs, [] => vs = []
  | vs, x :: xs => ∃ w ws, vs = w :: ws ∧ RV K M m H0 H w x ∧ RVs K M m H0 H ws xs
theorem RVs.keep {K M m H0 H H' ph} (r : Rel K M m H ph) (f : Frame m H H') : ∀ {xs : List Val} {vs : List V}, RVs K M m H0 H vs xs → RVs K M m H0 H' vs xs
  | [], vs, h => h
  | x :: xs, vs, ⟨w, ws, e, h1, h2⟩ => ⟨w, ws, e, h1.keep r f, RVs.keep r f h2⟩
theorem RVs.base {K M m H0 H1 H} (f : ∀ p, H1 p = none → H0 p = none) : ∀ {xs : List Val} {vs : List V}, RVs K M m H1 H vs xs → RVs K M m H0 H vs xs
  | [], vs, h => h
  | x :: xs, vs, ⟨w, ws, e, h1, h2⟩ => ⟨w, ws, e, RV.base f h1, RVs.base f h2⟩
theorem RVs.length {K M m H0 H} : ∀ {xs : List Val} {vs : List V}, RVs K M m H0 H vs xs → vs.length = xs.length
  | [], vs, h => by subst h; rfl
  | x :: xs, vs, ⟨w, ws, e, h1, h2⟩ => by subst e; simp [RVs.length h2]
def dats : List Val → Option (List D)
  | [] => some []
  | x :: xs => match x.dat, dats xs with
    | some d, some ds => some (d :: ds)
    | _, _ => none
theorem RVs.dats {K M m H0 H} : ∀ {xs : List Val} {vs : List V} {ds : List D}, RVs K M m H0 H vs xs → dats xs = some ds → Reps K M H ds vs
  | [], vs, ds, h, e => by subst h; cases e; exact Reps.nil
  | x :: xs, vs, ds, ⟨w, ws, e1, h1, h2⟩, e => by
    subst e1
    rw [Pyp.dats] at e
    split at e
    · rename_i d ds' e1 e2
      cases e
      exact .cons (h1.dat e1) (RVs.dats h2 e2)
    · cases e
def GA (X : Cx) (M : Addr → Prop) (m : List Addr) (H : Hp) (Q : List V → Hp → Prop) : List Val → PH → Prop := fun x ph => ∀ vs H', Frame m H H' → Rel X.K M m H' ph → RVs X.K M m H H' vs x → Q vs H'

structure SE (X : Cx) (W : WX) (e : Expr) (x : Ex) : Prop where
  run : ∀ M m σ H env ph, Rel X.K M m H ph → EnvR X.K M m σ H env → ∀ Q, Post X W M m σ H (GE X M m H Q) (x env ph) → tW X e σ H Q
structure ST (X : Cx) (W : WX) (e : Expr) (x : Tx) : Prop where
  run : ∀ M m σ H env ph, Rel X.K M m H ph → EnvR X.K M m σ H env → ∀ Q, Post X W M m σ H (GT X M m H Q) (x env ph) → tWT X e σ H Q
structure SA (X : Cx) (W : WX) (es : List Expr) (x : Ax) : Prop where
  run : ∀ M m σ H env ph, Rel X.K M m H ph → EnvR X.K M m σ H env → ∀ Q, Post X W M m σ H (GA X M m H Q) (x env ph) → tWA X es σ H Q

section
variable {W : WX} {M : Addr → Prop} {m : List Addr} {σ : L2.St} {H : Hp} {env : Env} {ph : PH} {e : Expr} {x : Ex} {α : Type} {G : α → PH → Prop}
theorem SE.bind {f : Val → PH → Res α} (h : SE X W e x) (r : Rel X.K M m H ph) (er : EnvR X.K M m σ H env) {Q : VK} (q : Post X W M m σ H G ((x env ph).bind f))
    (k : ∀ val ph1 v H1, Frame m H H1 → Rel X.K M m H1 ph1 → EnvR X.K M m σ H1 env → RV X.K M m H H1 v val → RO X.K M m H1 ph1 v val → Post X W M m σ H1 G (f val ph1) → Q v H1) : tW X e σ H Q := by
  refine h.run M m σ H env ph r er Q ?_
  cases hx : x env ph with
  | ok val ph1 => rw [hx] at q; exact fun v H1 fr r1 rv ro => k val ph1 v H1 fr r1 (er.keep r fr) rv ro (Post.step fr q)
  | exc c fs ph1 => rw [hx] at q; exact q
  | bad => rw [hx] at q; exact q
theorem ST.bind {x : Tx} {f : Bool → PH → Res α} (h : ST X W e x) (r : Rel X.K M m H ph) (er : EnvR X.K M m σ H env) {Q : Bool → Hp → Prop} (q : Post X W M m σ H G ((x env ph).bind f))
    (k : ∀ b ph1 H1, Frame m H H1 → Rel X.K M m H1 ph1 → EnvR X.K M m σ H1 env → Post X W M m σ H1 G (f b ph1) → Q b H1) : tWT X e σ H Q := by
  refine h.run M m σ H env ph r er Q ?_
  cases hx : x env ph with
  | ok val ph1 => rw [hx] at q; exact fun H1 fr r1 => k val ph1 H1 fr r1 (er.keep r fr) (Post.step fr q)
  | exc c fs ph1 => rw [hx] at q; exact q
  | bad => rw [hx] at q; exact q
theorem SA.bind {es : List Expr} {x : Ax} {f : List Val → PH → Res α} (h : SA X W es x) (r : Rel X.K M m H ph) (er : EnvR X.K M m σ H env) {Q : List V → Hp → Prop} (q : Post X W M m σ H G ((x env ph).bind f))
    (k : ∀ vals ph1 vs H1, Frame m H H1 → Rel X.K M m H1 ph1 → EnvR X.K M m σ H1 env → RVs X.K M m H H1 vs vals → Post X W M m σ H1 G (f vals ph1) → Q vs H1) : tWA X es σ H Q := by
  refine h.run M m σ H env ph r er Q ?_
  cases hx : x env ph with
  | ok val ph1 => rw [hx] at q; exact fun v H1 fr r1 rv => k val ph1 v H1 fr r1 (er.keep r fr) rv (Post.step fr q)
  | exc c fs ph1 => rw [hx] at q; exact q
  | bad => rw [hx] at q; exact q
/-- an answer of a piece that began at H, looked at from H1 -/
theorem GE.at {H1 : Hp} {Q : VK} {val : Val} {ph1 : PH} (fr : Frame m H H1) (r1 : Rel X.K M m H1 ph) (q : GE X M m H Q val ph1) : GE X M m H1 Q val ph1 := fun v H' f' r' rv ro =>
  q v H' (fr.trans f') r' (rv.base fun _ h => fr.back r1 h) ro
theorem Post.of {Q : VK} {o : Option Val} (q : Post X W M m σ H (GE X M m H Q) (Res.of o ph)) : ∃ val, o = some val ∧ GE X M m H Q val ph := by
  cases o with
  | none => exact q.elim
  | some v => exact ⟨v, rfl, q⟩
end

/-! ### names, constants -/
def eVar (i : Nat) : Ex := fun env ph => match env[i]? with
  | some (some v) => .ok v.read ph
  | _ => .bad
def eC (d : D) : Ex := fun _ ph => .ok (.d d) ph
section
variable {W : WX} {pos : Pos}
theorem s_var (i : Nat) {n : Str} (hN : X.N[i]? = some n := by rfl) (hv : Vis X.env.scope n := by first | exact Or.inl rfl | exact Or.inr (Or.inl rfl) | exact Or.inr (Or.inr rfl)) (hd : (n == ("__debug__" : Str)) = false := by decide)
    (hcd : (n == ("__classdict__" : Str)) = false := by decide) : SE X W (.Name n pos) (eVar i) := by
  refine ⟨fun M m σ H env ph r er Q q => ?_⟩
  unfold eVar at q
  split at q
  · rename_i v e
    obtain ⟨w, h1, h2⟩ := er.2 i v e
    exact tW_of (pe_var hN hv hd hcd) ⟨w, h1, q w H Frame.refl r h2.rv RO.read⟩
  · exact q.elim
theorem s_int {i : Int} {j : Nat} : SE X W (.Constant (.int i) j pos) (eC (.int i)) := ⟨fun M m σ H env ph r er Q q => tW_of pe_int (q _ H Frame.refl r (by rw [RV, Rep]) RO.d)⟩
theorem s_bl {b : Bool} {j : Nat} : SE X W (.Constant (.bool b) j pos) (eC (.bl b)) := ⟨fun M m σ H env ph r er Q q => tW_of pe_bl (q _ H Frame.refl r (by rw [RV, Rep]) RO.d)⟩
theorem s_non {j : Nat} : SE X W (.Constant .none j pos) (eC .non) := ⟨fun M m σ H env ph r er Q q => tW_of pe_non (q _ H Frame.refl r (by rw [RV, Rep]) RO.d)⟩
theorem s_str (cs : List Nat) {x : Str} {j : Nat} (e : x = ⟨cs.toArray⟩ := by decide +kernel) : SE X W (.Constant (.str x) j pos) (eC (.str cs)) := ⟨fun M m σ H env ph r er Q q => tW_of pe_str (q _ H Frame.refl r (by rw [RV, Rep, e]) RO.d)⟩
end

/-! ### two-place operations by values -/
def OpS (X : Cx) (F : Value → Value → Sem Value) (f : D → D → Option Val) : Prop := ∀ pins s σ H x y u v M m ph dx dy val Q, Inv X pins σ H s → RelV x u → RelV y v → Rel X.K M m H ph → CR X.K M H dx x → CR X.K M H dy y → f dx dy = some val →
  GE X M m H Q val ph → wpAny (model X.prog X.w) X.A (F u v) (EP X pins σ Q) X.xe s
def eBin (f : D → D → Option Val) (a b : Ex) : Ex := fun env ph => (a env ph).bind fun va ph1 => (b env ph1).bind fun vb ph2 => match va.cont ph2, vb.cont ph2 with
  | some x, some y => Res.of (f x y) ph2
  | _, _ => .bad
section
variable {W : WX} {pos : Pos} {a b c : Expr} {xa xb xc : Ex} {f : D → D → Option Val} {F : Value → Value → Sem Value}
theorem bin_core (ho : OpS X F f) (ha : SE X W a xa) (hb : SE X W b xb) {M m σ H env ph Q} (r : Rel X.K M m H ph) (er : EnvR X.K M m σ H env) (q : Post X W M m σ H (GE X M m H Q) (eBin f xa xb env ph)) : tOp (rW X F) (tW X a) (tW X b) σ H Q := by
  refine ha.bind r er q fun va ph1 v1 H1 fr1 r1 er1 rv1 _ q1 => ?_
  refine hb.bind r1 er1 q1 fun vb ph2 v2 H2 fr2 r2 er2 rv2 _ q2 => ?_
  split at q2
  · rename_i dx dy e1 e2
    obtain ⟨val, ev, g⟩ := Post.of (Q := Q) (M := M) (m := m) (H := H2) (X := X) (W := W) (σ := σ) (o := f dx dy) (ph := ph2) (Post.mono (fun _ _ g => GE.at (fr1.trans fr2) r2 g) q2)
    intro pins s σ' u v I rx ry
    exact ho pins s σ' H2 v1 v2 u v M m ph2 dx dy val Q I rx ry r2 ((rv1.keep r1 fr2).cr r2 e1) (rv2.cr r2 e2) ev g
  · exact q2.elim
theorem s_bin {op : Operator} (ho : OpS X (binaryOp op) f) (ha : SE X W a xa) (hb : SE X W b xb) : SE X W (.BinOp a op b pos) (eBin f xa xb) :=
  ⟨fun M m σ H env ph r er Q q => tW_of (pe_op rW_op tW_pe tW_pe) (bin_core ho ha hb r er q)⟩
theorem s_cmp {op : CmpOp} (ho : OpS X (compareOp op) f) (ha : SE X W a xa) (hb : SE X W b xb) (hm : behindInMarks op b = false := by first | exact nobehind _ (by decide) (by decide) | rfl) : SE X W (.Compare a [op] [b] pos) (eBin f xa xb) :=
  ⟨fun M m σ H env ph r er Q q => tW_of (pe_cmpR rW_op tW_pe tW_pe hm) (bin_core ho ha hb r er q)⟩
end
/-- the truth of what has come, where it is a truth -/
def tB (x : Ex) : Tx := fun env ph => (x env ph).bind fun v ph1 => match v with
  | .d (.bl b) => .ok b ph1
  | _ => .bad
section
variable {W : WX} {pos : Pos} {a b c e : Expr} {xa xb xc x : Ex} {ta tb : Tx} {f f' : D → D → Option Val}
theorem Post.tB {M m σ H Q} {r : Res Val} (q : Post X W M m σ H (GT X M m H Q) (r.bind fun v ph1 => match v with | .d (.bl b) => .ok b ph1 | _ => .bad)) :
    Post X W M m σ H (GE X M m H fun y H1 => ∃ c, y = .bl c ∧ Q c H1) r := by
  cases r with
  | ok v ph1 =>
    cases v with
    | d d =>
      cases d with
      | bl b => exact fun v H' f r rv _ => ⟨b, by rw [RV, Rep] at rv; exact rv, q H' f r⟩
      | _ => exact q.elim
    | _ => exact q.elim
  | exc c fs ph1 => exact q
  | bad => exact q
theorem t_val (h : SE X W e x) (he : ∀ whole, isTrue e X.env whole = (do let v ← whole; standAt e.pos; holding [v] (truthy v)) := by intro _; rfl) : ST X W e (tB x) :=
  ⟨fun M m σ H env ph r er Q q => tWT_of (pt_val tW_pe he) (h.run M m σ H env ph r er _ (Post.tB q))⟩
theorem t_cmp {op : CmpOp} (ho : OpS X (compareOp op) f) (ha : SE X W a xa) (hb : SE X W b xb) (hm : behindInMarks op b = false := by first | exact nobehind _ (by decide) (by decide) | rfl) : ST X W (.Compare a [op] [b] pos) (tB (eBin f xa xb)) :=
  ⟨fun M m σ H env ph r er Q q => tWT_of (pt_cmpR rW_op tW_pe tW_pe hm) (bin_core ho ha hb r er (Post.tB q))⟩

/-! ### not, and, or -/
def tNot (t : Tx) : Tx := fun env ph => (t env ph).bind fun b ph1 => .ok (!b) ph1
def tAnd (t u : Tx) : Tx := fun env ph => (t env ph).bind fun b ph1 => if b = true then u env ph1 else .ok false ph1
def tOr (t u : Tx) : Tx := fun env ph => (t env ph).bind fun b ph1 => if b = true then .ok true ph1 else u env ph1
theorem t_not (h : ST X W a ta) : ST X W (.UnaryOp .Not a pos) (tNot ta) := ⟨fun M m σ H env ph r er Q q => tWT_of (pt_not tWT_pt)
  (h.bind r er q fun b ph1 H1 fr r1 er1 g => g H1 fr r1)⟩
/-- a row of and, of or, as tests -/
structure SW (X : Cx) (W : WX) (e : Expr) (x : Tx) : Prop where
  run : ∀ M m σ H env ph, Rel X.K M m H ph → EnvR X.K M m σ H env → ∀ Q, Post X W M m σ H (GT X M m H Q) (x env ph) → ∃ t, PW X e t ∧ t σ H Q
theorem w_and1 (h : ST X W a ta) : SW X W (.BoolOp .And [a] pos) ta := ⟨fun M m σ H env ph r er Q q => ⟨_, pw_and1 tWT_pt, h.run M m σ H env ph r er Q q⟩⟩
theorem w_or1 (h : ST X W a ta) : SW X W (.BoolOp .Or [a] pos) ta := ⟨fun M m σ H env ph r er Q q => ⟨_, pw_or1 tWT_pt, h.run M m σ H env ph r er Q q⟩⟩
def tWW (X : Cx) (e : Expr) : TT := fun σ H Q => ∀ whole pins s, Inv X pins σ H s → wpAny (model X.prog X.w) X.A (isTrue e X.env whole) (TP X pins σ Q) X.xe s
theorem tWW_pw {e : Expr} : PW X e (tWW X e) := ⟨fun wh pins s σ H Q I h => h wh pins s I⟩
theorem SW.weak {σ H Q e} (h : ∃ t, PW X e t ∧ t σ H Q) : tWW X e σ H Q := fun wh pins s I => let ⟨_, p, q⟩ := h; p.run wh pins s σ H Q I q
theorem GT.at {M m H H1 b ph1} {Q : Bool → Hp → Prop} (fr : Frame m H H1) (q : GT X M m H Q b ph1) : GT X M m H1 Q b ph1 := fun H' f' r' => q H' (fr.trans f') r'
variable {rest : List Expr}
theorem w_and (ha : ST X W a ta) (hb : SW X W (.BoolOp .And (b :: rest) pos) tb) : SW X W (.BoolOp .And (a :: b :: rest) pos) (tAnd ta tb) := ⟨fun M m σ H env ph r er Q q => ⟨_, pw_and tWT_pt tWW_pw, by
  refine ha.bind r er q fun c ph1 H1 fr r1 er1 g => ?_
  cases c with
  | true => exact SW.weak (hb.run M m σ H1 env ph1 r1 er1 Q (Post.mono (fun _ _ g => GT.at fr g) g))
  | false => exact g H1 fr r1⟩⟩
theorem w_or (ha : ST X W a ta) (hb : SW X W (.BoolOp .Or (b :: rest) pos) tb) : SW X W (.BoolOp .Or (a :: b :: rest) pos) (tOr ta tb) := ⟨fun M m σ H env ph r er Q q => ⟨_, pw_or tWT_pt tWW_pw, by
  refine ha.bind r er q fun c ph1 H1 fr r1 er1 g => ?_
  cases c with
  | false => exact SW.weak (hb.run M m σ H1 env ph1 r1 er1 Q (Post.mono (fun _ _ g => GT.at fr g) g))
  | true => exact g H1 fr r1⟩⟩
theorem SW.st (h : SW X W e ta) : ST X W e ta := ⟨fun M m σ H env ph r er Q q => let ⟨_, p, q⟩ := h.run M m σ H env ph r er Q q; tWT_of p.pt q⟩
/-- as values: truths -/
def eAnd (x y : Ex) : Ex := fun env ph => (tB x env ph).bind fun b ph1 => if b = true then y env ph1 else .ok (.d (.bl false)) ph1
def eOr (x y : Ex) : Ex := fun env ph => (tB x env ph).bind fun b ph1 => if b = true then .ok (.d (.bl true)) ph1 else y env ph1
def eNot (x : Ex) : Ex := fun env ph => (tB x env ph).bind fun b ph1 => .ok (.d (.bl (!b))) ph1
theorem bind_assoc {α β γ : Type} (r : Res α) (f : α → PH → Res β) (g : β → PH → Res γ) : (r.bind f).bind g = r.bind fun a ph => (f a ph).bind g := by
  cases r <;> rfl
theorem Post.tB2 {M m σ H H0 Q} {r : Res Val} {k : Bool → PH → Res Val} (q : Post X W M m σ H (GE X M m H0 Q) ((r.bind fun v ph1 => match v with | .d (.bl b) => .ok b ph1 | _ => .bad).bind k)) (R : Bool → Hp → Prop)
    (hk : ∀ c ph1 H1, Frame m H H1 → Rel X.K M m H1 ph1 → Post X W M m σ H1 (GE X M m H0 Q) (k c ph1) → R c H1) : Post X W M m σ H (GE X M m H fun y H1 => ∃ c, y = .bl c ∧ R c H1) r := by
  cases r with
  | ok v ph1 =>
    cases v with
    | d d =>
      cases d with
      | bl b => exact fun v H' f r rv _ => ⟨b, by rw [RV, Rep] at rv; exact rv, hk b ph1 H' f r (Post.step f q)⟩
      | _ => exact q.elim
    | _ => exact q.elim
  | exc c fs ph1 => exact q
  | bad => exact q
theorem s_one {op} (h : SE X W a x) : SE X W (.BoolOp op [a] pos) x := ⟨fun M m σ H env ph r er Q q => tW_of (pe_one tW_pe) (h.run M m σ H env ph r er Q q)⟩
theorem rv_bl {M m H0 H} {b : Bool} : RV X.K M m H0 H (.bl b) (.d (.bl b)) := by rw [RV, Rep]
theorem s_and (ha : SE X W a xa) (hb : SE X W (.BoolOp .And (b :: rest) pos) xb) : SE X W (.BoolOp .And (a :: b :: rest) pos) (eAnd xa xb) := ⟨fun M m σ H env ph r er Q q => tW_of (pe_and tW_pe tW_pe) (by
  refine ha.run M m σ H env ph r er _ (Post.tB2 q (fun c H1 => if c = true then tW X _ σ H1 Q else Q (.bl false) H1) fun c ph1 H1 fr r1 g => ?_)
  cases c with
  | true => exact hb.run M m σ H1 env ph1 r1 (er.keep r fr) Q (Post.mono (fun _ _ g => GE.at fr r1 g) g)
  | false => exact g _ H1 fr r1 rv_bl RO.d)⟩
theorem s_or (ha : SE X W a xa) (hb : SE X W (.BoolOp .Or (b :: rest) pos) xb) : SE X W (.BoolOp .Or (a :: b :: rest) pos) (eOr xa xb) := ⟨fun M m σ H env ph r er Q q => tW_of (pe_or tW_pe tW_pe) (by
  refine ha.run M m σ H env ph r er _ (Post.tB2 q (fun c H1 => if c = true then Q (.bl true) H1 else tW X _ σ H1 Q) fun c ph1 H1 fr r1 g => ?_)
  cases c with
  | false => exact hb.run M m σ H1 env ph1 r1 (er.keep r fr) Q (Post.mono (fun _ _ g => GE.at fr r1 g) g)
  | true => exact g _ H1 fr r1 rv_bl RO.d)⟩
theorem s_not (h : SE X W a x) : SE X W (.UnaryOp .Not a pos) (eNot x) := ⟨fun M m σ H env ph r er Q q => tW_of (pe_not tW_pe) (by
  refine h.run M m σ H env ph r er _ (Post.tB2 q (fun c H1 => Q (.bl (!c)) H1) fun c ph1 H1 fr r1 g => ?_)
  exact g _ H1 fr r1 rv_bl RO.d)⟩
/-- a if t else b -/
def eIf (t : Tx) (x y : Ex) : Ex := fun env ph => (t env ph).bind fun b ph1 => if b = true then x env ph1 else y env ph1
theorem s_if (hc : ST X W c ta) (ha : SE X W a xa) (hb : SE X W b xb) : SE X W (.IfExp c a b pos) (eIf ta xa xb) := ⟨fun M m σ H env ph r er Q q => tW_of (pe_ifExp tWT_pt tW_pe tW_pe) (by
  refine hc.bind r er q fun c ph1 H1 fr r1 er1 g => ?_
  cases c with
  | true => exact ha.run M m σ H1 env ph1 r1 er1 Q (Post.mono (fun _ _ g => GE.at fr r1 g) g)
  | false => exact hb.run M m σ H1 env ph1 r1 er1 Q (Post.mono (fun _ _ g => GE.at fr r1 g) g))⟩

/-! ### rows of values -/
def aNil : Ax := fun _ ph => .ok [] ph
def aCons (x : Ex) (xs : Ax) : Ax := fun env ph => (x env ph).bind fun v ph1 => (xs env ph1).bind fun vs ph2 => .ok (v :: vs) ph2
theorem a_nil : SA X W [] aNil := ⟨fun M m σ H env ph r er Q q => tWA_of pa_nil (q [] H Frame.refl r rfl)⟩
theorem a_cons {es : List Expr} {xs : Ax} (h : SE X W e x) (hs : SA X W es xs) (hst : starEach (e :: es) X.env = (false, eval e X.env) :: starEach es X.env := by rfl) : SA X W (e :: es) (aCons x xs) := ⟨fun M m σ H env ph r er Q q => tWA_of (pa_cons tW_pe tWA_pa hst) (by
  refine h.bind r er q fun v ph1 w H1 fr1 r1 er1 rv1 _ q1 => ?_
  refine hs.bind r1 er1 q1 fun vs ph2 ws H2 fr2 r2 er2 rv2 q2 => ?_
  exact q2 (w :: ws) H2 (fr1.trans fr2) r2 ⟨w, ws, rfl, rv1.keep r1 fr2, rv2.base fun _ z => fr1.back r1 z⟩)⟩
/-! displays -/
def lim : Nat := 1000000
theorem lim_line {n : Nat} (h : n ≤ lim) : n ≤ sizeLine := Nat.le_trans h (by decide)
theorem lim_lt {n : Nat} (h : n ≤ lim) : n < sizeLine := Nat.lt_of_le_of_lt h (by decide)
def eTup (xs : Ax) : Ex := fun env ph => (xs env ph).bind fun vs ph1 => match dats vs with
  | some ds => if ds.length ≤ lim then .ok (.d (.tup ds)) ph1 else .bad
  | none => .bad
def eLst (xs : Ax) : Ex := fun env ph => (xs env ph).bind fun vs ph1 => match dats vs with
  | some ds => if ds.length ≤ lim then .ok (.own (.lst ds)) ph1 else .bad
  | none => .bad
theorem tup_new {K M m H ph p ds xs} (r : Rel K M m H ph) (hp : H p = none) (h : Reps K M H ds xs) : Rep K M (upd H p (.tup xs)) (.tup ds) (.ref p) := by
  rw [Rep]
  exact ⟨p, xs, rfl, .inl ⟨r.notM hp, .inl upd_same⟩, Reps.keep (keep_new hp) _ _ h⟩
theorem own_new {K M m H H0 ph p ds xs} (r : Rel K M m H ph) (hp : H p = none) (h0 : H0 p = none) (h : Reps K M H ds xs) : RV K M m H0 (upd H p (.lst xs)) (.ref p) (.own (.lst ds)) :=
  ⟨p, rfl, h0, r.notM hp, xs, upd_same, Reps.keep (keep_new hp) _ _ h⟩
theorem own_ro {K M m H ph p ds xs} (r : Rel K M m H ph) (hp : H p = none) (h : Reps K M H ds xs) : RO K M m (upd H p (.lst xs)) ph (.ref p) (.own (.lst ds)) := fun d e a ea => by
  cases e; cases ea
  exact ⟨r.newM hp, xs, upd_same, Reps.keep (keep_new hp) _ _ (Reps.fresh hp _ _ h)⟩
theorem s_tup {es : List Expr} {xs : Ax} {k : Nat} (h : SA X W es xs) : SE X W (.Tuple es k pos) (eTup xs) := ⟨fun M m σ H env ph r er Q q => tW_of (pe_tup tWA_pa) (by
  refine h.bind r er q fun vs ph1 ws H1 fr r1 er1 rv q1 => ?_
  split at q1
  · rename_i ds ed
    have rp := rv.dats ed
    split at q1
    · rename_i hl
      exact ⟨by rw [rp.length]; exact lim_line hl, fun p hp => q1 (.ref p) _ (fr.trans (Frame.new hp)) (r1.new hp) (tup_new r1 hp rp) RO.d⟩
    · exact q1.elim
  · exact q1.elim)⟩
theorem s_lst {es : List Expr} {xs : Ax} (h : SA X W es xs) : SE X W (.List es pos) (eLst xs) := ⟨fun M m σ H env ph r er Q q => tW_of (pe_lst tWA_pa) (by
  refine h.bind r er q fun vs ph1 ws H1 fr r1 er1 rv q1 => ?_
  split at q1
  · rename_i ds ed
    have rp := rv.dats ed
    split at q1
    · rename_i hl
      exact ⟨by rw [rp.length]; exact lim_line hl, fun p hp => q1 (.ref p) _ (fr.trans (Frame.new hp)) (r1.new hp) (own_new r1 hp (fr.back r1 hp) rp) (own_ro r1 hp rp)⟩
    · exact q1.elim
  · exact q1.elim)⟩
end
end Pyp

/-! Statements, defs, calls. -/
namespace Pyp
open PySem L2

inductive Out where
  | nx (env : Env) (ph : PH) | ret (v : Val) (ph : PH) | bk (env : Env) (ph : PH) | ct (env : Env) (ph : PH) | exc (c : Str) (fs : List (Str × D)) (env : Env) (ph : PH) | bad
abbrev Sx := Env → PH → Out
def Res.bindS {α : Type} (r : Res α) (env : Env) (f : α → PH → Out) : Out := match r with
  | .ok a ph => f a ph
  | .exc c fs ph => .exc c fs env ph
  | .bad => .bad
@[simp] theorem Res.bindS_ok {α : Type} (a : α) (ph : PH) (env : Env) (f : α → PH → Out) : (Res.ok a ph).bindS env f = f a ph := rfl
@[simp] theorem Res.bindS_exc {α : Type} (c : Str) (fs : List (Str × D)) (ph : PH) (env : Env) (f : α → PH → Out) : (Res.exc c fs ph : Res α).bindS env f = .exc c fs env ph := rfl
@[simp] theorem Res.bindS_bad {α : Type} (env : Env) (f : α → PH → Out) : (Res.bad : Res α).bindS env f = .bad := rfl
def Out.bind (o : Out) (f : Sx) : Out := match o with
  | .nx env ph => f env ph
  | o => o
@[simp] theorem Out.bind_nx (env : Env) (ph : PH) (f : Sx) : (Out.nx env ph).bind f = f env ph := rfl
@[simp] theorem Out.bind_ret (v : Val) (ph : PH) (f : Sx) : (Out.ret v ph).bind f = .ret v ph := rfl
@[simp] theorem Out.bind_bk (env : Env) (ph : PH) (f : Sx) : (Out.bk env ph).bind f = .bk env ph := rfl
@[simp] theorem Out.bind_ct (env : Env) (ph : PH) (f : Sx) : (Out.ct env ph).bind f = .ct env ph := rfl
@[simp] theorem Out.bind_exc (c : Str) (fs : List (Str × D)) (env : Env) (ph : PH) (f : Sx) : (Out.exc c fs env ph).bind f = .exc c fs env ph := rfl
@[simp] theorem Out.bind_bad (f : Sx) : Out.bad.bind f = .bad := rfl

section
variable (X : Cx)
def tWS (st : Stmt) : TS := fun D σ H => ∀ pins s, Inv X pins σ H s → wpAny (model X.prog X.w) X.A (exec st X.env) (SP X pins D) X.xe s
def tWB (st : List Stmt) : TS := fun D σ H => ∀ pins s, Inv X pins σ H s → wpAny (model X.prog X.w) X.A (execs st X.env) (SP X pins D) X.xe s
end
variable {X : Cx}
theorem tWS_ps {st : Stmt} : PS X st (tWS X st) := ⟨fun pins s σ H D I h => h pins s I⟩
theorem tWS_of {st : Stmt} {t : TS} {D : Ends} {σ : L2.St} {H : Hp} (h : PS X st t) (q : t D σ H) : tWS X st D σ H := fun pins s I => h.run pins s σ H D I q
theorem tWB_ps {st : List Stmt} : PSs X st (tWB X st) := ⟨fun pins s σ H D I h => h pins s I⟩
theorem tWB_of {st : List Stmt} {t : TS} {D : Ends} {σ : L2.St} {H : Hp} (h : PSs X st t) (q : t D σ H) : tWB X st D σ H := fun pins s I => h.run pins s σ H D I q

/-- the state in a def that began with M0, H0; what hd holds beside the slots is data -/
structure StR (K : PySem.W.Frag) (M0 : Addr → Prop) (H0 : Hp) (hd : V → D → Prop) (M : Addr → Prop) (m : List Addr) (σ : L2.St) (H : Hp) (env : Env) (ph : PH) : Prop where
  rel : Rel K M m H ph
  er : EnvR K M m σ H env
  len : env.length = σ.length
  sub : ∀ a, M0 a → M a
  mem : ∀ a ∈ m, M0 a
  fr : Frame m H0 H
  own : ∀ (i : Nat) (x : D) (a : Addr), env[i]? = some (some (.own x)) → σ[i]? = some (some (V.ref a)) → H0 a = none ∧ ¬ M0 a
  sep : ∀ (i j : Nat) (x y : D) (a : Addr), i ≠ j → env[i]? = some (some (.own x)) → env[j]? = some (some (.own y)) → σ[i]? = some (some (V.ref a)) → σ[j]? = some (some (V.ref a)) → False
  held : ∀ v d, hd v d → Rep K M H d v
section
variable {K : PySem.W.Frag} {M0 M : Addr → Prop} {H0 H H' : Hp} {hd : V → D → Prop} {m : List Addr} {σ : L2.St} {env : Env} {ph ph' : PH}
theorem StR.keep (s : StR K M0 H0 hd M m σ H env ph) (f : Frame m H H') (r : Rel K M m H' ph') : StR K M0 H0 hd M m σ H' env ph' :=
  ⟨r, s.er.keep s.rel f, s.len, s.sub, s.mem, s.fr.trans f, s.own, s.sep, fun v d h => Rep.keep (f.keep s.rel) d v (s.held v d h)⟩
end

def PostS (X : Cx) (W : WX) (M0 : Addr → Prop) (H0 : Hp) (hd : V → D → Prop) (m : List Addr) (D : Ends) : Out → Prop
  | .nx env ph => ∀ M σ H, StR X.K M0 H0 hd M m σ H env ph → D.nx σ H
  | .bk env ph => ∀ M σ H, StR X.K M0 H0 hd M m σ H env ph → D.bk σ H
  | .ct env ph => ∀ M σ H, StR X.K M0 H0 hd M m σ H env ph → D.ct σ H
  | .ret v ph => ∀ w H', Frame m H0 H' → Rel X.K M0 m H' ph → RV X.K M0 m H0 H' w v → RO X.K M0 m H' ph w v → D.rt w H'
  | .exc c fs env ph => ∀ M σ H cls d, StR X.K M0 H0 hd M m σ H env ph → ExR X.mg X.K M H c fs cls d → W cls d σ H
  | .bad => False

structure SS (X : Cx) (W : WX) (st : Stmt) (x : Sx) : Prop where
  run : ∀ M0 H0 hd M m σ H env ph, StR X.K M0 H0 hd M m σ H env ph → ∀ D, PostS X W M0 H0 hd m D (x env ph) → tWS X st D σ H
structure SB (X : Cx) (W : WX) (st : List Stmt) (x : Sx) : Prop where
  run : ∀ M0 H0 hd M m σ H env ph, StR X.K M0 H0 hd M m σ H env ph → ∀ D, PostS X W M0 H0 hd m D (x env ph) → tWB X st D σ H

section
variable {W : WX} {M0 M : Addr → Prop} {H0 H : Hp} {hd : V → D → Prop} {m : List Addr} {σ : L2.St} {env : Env} {ph : PH} {e : Expr} {x : Ex} {D : Ends}
theorem SE.bindS {f : Val → PH → Out} (h : SE X W e x) (s : StR X.K M0 H0 hd M m σ H env ph) {Q : VK} (q : PostS X W M0 H0 hd m D ((x env ph).bindS env f))
    (k : ∀ val ph1 v H1, Frame m H H1 → StR X.K M0 H0 hd M m σ H1 env ph1 → RV X.K M m H H1 v val → RO X.K M m H1 ph1 v val → PostS X W M0 H0 hd m D (f val ph1) → Q v H1) : tW X e σ H Q := by
  refine h.run M m σ H env ph s.rel s.er Q ?_
  cases hx : x env ph with
  | ok val ph1 => rw [hx] at q; exact fun v H1 fr r1 rv ro => k val ph1 v H1 fr (s.keep fr r1) rv ro q
  | exc c fs ph1 => rw [hx] at q; exact fun cls d H1 fr r1 ex => q M σ H1 cls d (s.keep fr r1) ex
  | bad => rw [hx] at q; exact q
theorem ST.bindS {x : Tx} {f : Bool → PH → Out} (h : ST X W e x) (s : StR X.K M0 H0 hd M m σ H env ph) {Q : Bool → Hp → Prop} (q : PostS X W M0 H0 hd m D ((x env ph).bindS env f))
    (k : ∀ b ph1 H1, Frame m H H1 → StR X.K M0 H0 hd M m σ H1 env ph1 → PostS X W M0 H0 hd m D (f b ph1) → Q b H1) : tWT X e σ H Q := by
  refine h.run M m σ H env ph s.rel s.er Q ?_
  cases hx : x env ph with
  | ok val ph1 => rw [hx] at q; exact fun H1 fr r1 => k val ph1 H1 fr (s.keep fr r1) q
  | exc c fs ph1 => rw [hx] at q; exact fun cls d H1 fr r1 ex => q M σ H1 cls d (s.keep fr r1) ex
  | bad => rw [hx] at q; exact q
theorem SA.bindS {es : List Expr} {x : Ax} {f : List Val → PH → Out} (h : SA X W es x) (s : StR X.K M0 H0 hd M m σ H env ph) {Q : List V → Hp → Prop} (q : PostS X W M0 H0 hd m D ((x env ph).bindS env f))
    (k : ∀ vals ph1 vs H1, Frame m H H1 → StR X.K M0 H0 hd M m σ H1 env ph1 → RVs X.K M m H H1 vs vals → PostS X W M0 H0 hd m D (f vals ph1) → Q vs H1) : tWA X es σ H Q := by
  refine h.run M m σ H env ph s.rel s.er Q ?_
  cases hx : x env ph with
  | ok val ph1 => rw [hx] at q; exact fun v H1 fr r1 rv => k val ph1 v H1 fr (s.keep fr r1) rv q
  | exc c fs ph1 => rw [hx] at q; exact fun cls d H1 fr r1 ex => q M σ H1 cls d (s.keep fr r1) ex
  | bad => rw [hx] at q; exact q
end

/-! ### changes of a state -/
section
variable {K : PySem.W.Frag} {M0 M : Addr → Prop} {H0 H H' : Hp} {hd : V → D → Prop} {m : List Addr} {σ σ' : L2.St} {env env' : Env} {ph ph' : PH} {i : Nat} {d : D} {v : V} {a : Addr}
theorem lt_of_set {α : Type} {l : List α} {i : Nat} {x y : α} (h : (l.set i x)[i]? = some y) : i < l.length := by
  have := (List.getElem?_eq_some_iff.mp h).1
  simpa using this
/-- only slots of sl change, and to data -/
structure Chg (sl : List Nat) (σ σ' : L2.St) (env env' : Env) : Prop where
  lenE : env'.length = env.length
  lenS : σ'.length = σ.length
  outE : ∀ j : Nat, j ∉ sl → env'[j]? = env[j]?
  outS : ∀ j : Nat, j ∉ sl → σ'[j]? = σ[j]?
  inE : ∀ (j : Nat) (x : D), j ∈ sl → env'[j]? ≠ some (some (.own x))
theorem Chg.refl : Chg [] σ σ env env := ⟨rfl, rfl, fun _ _ => rfl, fun _ _ => rfl, fun _ _ h => nomatch h⟩
theorem Chg.trans {sl sl' : List Nat} {σ1 : L2.St} {env1 : Env} (a : Chg sl σ σ1 env env1) (b : Chg sl' σ1 σ' env1 env') : Chg (sl ++ sl') σ σ' env env' :=
  ⟨b.lenE.trans a.lenE, b.lenS.trans a.lenS, fun j h => (b.outE j fun z => h (List.mem_append_right _ z)).trans (a.outE j fun z => h (List.mem_append_left _ z)),
    fun j h => (b.outS j fun z => h (List.mem_append_right _ z)).trans (a.outS j fun z => h (List.mem_append_left _ z)), fun j x h => by
      by_cases hb : j ∈ sl'
      · exact b.inE j x hb
      · rw [b.outE j hb]
        exact a.inE j x ((List.mem_append.mp h).resolve_right hb)⟩
theorem Chg.one (hl : env.length = σ.length) : Chg [i] σ (σ.set i (some v)) env (env.set i (some (.d d))) :=
  ⟨by simp, by simp, fun j h => List.getElem?_set_ne fun z => h (by simp [z]), fun j h => List.getElem?_set_ne fun z => h (by simp [z]), fun j x h e => by
    have : j = i := by simpa using h
    subst this
    rw [List.getElem?_set_self (lt_of_set e)] at e; cases e⟩
theorem StR.chg {sl : List Nat} (s : StR K M0 H0 hd M m σ H env ph) (c : Chg sl σ σ' env env') (er : EnvR K M m σ' H env') : StR K M0 H0 hd M m σ' H env' ph := by
  have back : ∀ (j : Nat) (x : D), env'[j]? = some (some (.own x)) → j ∉ sl := fun j x e h => c.inE j x h e
  refine ⟨s.rel, er, by rw [c.lenE, c.lenS, s.len], s.sub, s.mem, s.fr, fun j x a e1 e2 => ?_, fun j k x y a ne e1 e2 e3 e4 => ?_, s.held⟩
  · have n := back j x e1
    rw [c.outE j n] at e1
    rw [c.outS j n] at e2
    exact s.own j x a e1 e2
  · have n1 := back j x e1
    have n2 := back k y e2
    rw [c.outE j n1] at e1
    rw [c.outS j n1] at e3
    rw [c.outE k n2] at e2
    rw [c.outS k n2] at e4
    exact s.sep j k x y a ne e1 e2 e3 e4
theorem EnvR.set (er : EnvR K M m σ H env) (hl : env.length = σ.length) {x : Val} (h : SlotR K M m H v x) : EnvR K M m (σ.set i (some v)) H (env.set i (some x)) := ⟨by simp [hl], fun j y e => by
  by_cases hj : i = j
  · subst hj
    have hi := lt_of_set e
    rw [List.getElem?_set_self hi] at e; cases e
    exact ⟨v, List.getElem?_set_self (by rw [← hl]; exact hi), h⟩
  · rw [List.getElem?_set_ne hj] at e
    rw [List.getElem?_set_ne hj]
    exact er.2 j y e⟩
theorem StR.setD (s : StR K M0 H0 hd M m σ H env ph) (h : Rep K M H d v) : StR K M0 H0 hd M m (σ.set i (some v)) H (env.set i (some (.d d))) ph :=
  s.chg (Chg.one s.len) (s.er.set s.len h)
/-- a list just made gets a name -/
theorem StR.setOwn {phs : PH} {Hs : Hp} (s : StR K M0 H0 hd M m σ Hs env phs) (f : Frame m Hs H) (r : Rel K (MAdd M a) m H ph) (c : Cont K (MAdd M a) H a d) (ha : Hs a = none) (nm : ¬ M a) :
    StR K M0 H0 hd (MAdd M a) m (σ.set i (some (.ref a))) H (env.set i (some (.own d))) ph := by
  have k : KeepP (MAdd M a) Hs H := fun b o h n => f b o h fun z => n (.inl (s.rel.sub b z))
  have rep : ∀ (d : D) (v : V), Rep K M Hs d v → Rep K (MAdd M a) H d v := fun d v h => Rep.keep k d v (Rep.fresh ha d v h)
  have am : a ∉ m := fun z => nm (s.rel.sub a z)
  have slot : ∀ (x : Val) (v : V), SlotR K M m Hs v x → SlotR K (MAdd M a) m H v x := fun x v h => by
    cases x with
    | d x => exact rep x v h
    | own x =>
      obtain ⟨b, e, h1, h2, h3⟩ := h
      exact ⟨b, e, .inl h1, h2, (h3.fresh ha).keep k fun o z => f b o z h2⟩
    | bor x => exact h.elim
    | ref n => exact h
  have er : EnvR K (MAdd M a) m σ H env := ⟨s.len, fun j x e => let ⟨v, h1, h2⟩ := s.er.2 j x e; ⟨v, h1, slot x v h2⟩⟩
  have other : ∀ (j : Nat) (y : D), env[j]? = some (some (.own y)) → σ[j]? = some (some (V.ref a)) → False := fun j y e1 e2 => by
    obtain ⟨v, h1, b, e, h2, _⟩ := s.er.2 j _ e1
    rw [e2] at h1
    have e' : V.ref a = v := by simpa using h1
    subst e'
    cases e
    exact nm h2
  refine ⟨r, er.set s.len ⟨a, rfl, .inr rfl, am, c⟩, by simp [s.len], fun b h => .inl (s.sub b h), s.mem, s.fr.trans f, fun j x b e1 e2 => ?_, fun j k x y b ne e1 e2 e3 e4 => ?_, fun v d h => rep d v (s.held v d h)⟩
  · by_cases hj : i = j
    · subst hj
      have hi := lt_of_set e1
      rw [List.getElem?_set_self (by rw [← s.len]; exact hi)] at e2
      have e' : a = b := by simpa using e2
      subst e'
      exact ⟨s.fr.back s.rel ha, fun z => nm (s.sub a z)⟩
    · rw [List.getElem?_set_ne hj] at e1 e2
      exact s.own j x b e1 e2
  · by_cases hj : i = j
    · subst hj
      have hi := lt_of_set e1
      rw [List.getElem?_set_self (by rw [← s.len]; exact hi)] at e3
      have e' : a = b := by simpa using e3
      subst e'
      rw [List.getElem?_set_ne ne] at e2 e4
      exact other k y e2 e4
    · by_cases hk : i = k
      · subst hk
        have hi := lt_of_set e2
        rw [List.getElem?_set_self (by rw [← s.len]; exact hi)] at e4
        have e' : a = b := by simpa using e4
        subst e'
        rw [List.getElem?_set_ne hj] at e1 e3
        exact other j x e1 e3
      · rw [List.getElem?_set_ne hj] at e1 e3
        rw [List.getElem?_set_ne hk] at e2 e4
        exact s.sep j k x y b ne e1 e2 e3 e4
/-- a local list that nobody will write any more -/
theorem StR.frz (s : StR K M0 H0 hd M m σ H env ph) {x : D} (e : env[i]? = some (some (.own x))) : ∃ M', StR K M0 H0 hd M' m σ H (env.set i (some (.d x))) ph := by
  obtain ⟨v, e1, a, rfl, ma, am, c⟩ := s.er.2 i _ e
  obtain ⟨h0, n0⟩ := s.own i x a e e1
  have k : ∀ b, (M b ∧ b ≠ a) → M b := fun b z => z.1
  have hi : i < env.length := (List.getElem?_eq_some_iff.mp e).1
  refine ⟨fun b => M b ∧ b ≠ a, ⟨s.rel.len, s.rel.nd, fun b z => ⟨s.rel.sub b z, fun q => am (q ▸ z)⟩, fun b z => s.rel.dom b z.1, fun n b d z1 z2 => (s.rel.cont n b d z1 z2).anti k⟩, ⟨by simp [s.len], fun j y ey => ?_⟩, by simp [s.len], fun b z => ⟨s.sub b z, fun q => n0 (q ▸ z)⟩, s.mem, s.fr,
    fun j y b e2 e3 => ?_, fun j l y z b ne e2 e3 e4 e5 => ?_, fun v d h => Rep.anti k d v (s.held v d h)⟩
  · by_cases hj : i = j
    · subst hj
      rw [List.getElem?_set_self hi] at ey; cases ey
      exact ⟨_, e1, (c.anti k).rep fun z => z.2 rfl⟩
    · rw [List.getElem?_set_ne hj] at ey
      obtain ⟨w, h1, h2⟩ := s.er.2 j y ey
      refine ⟨w, h1, ?_⟩
      cases y with
      | d y => exact Rep.anti k y w h2
      | own y =>
        obtain ⟨b, eb, h3, h4, h5⟩ := h2
        subst eb
        exact ⟨b, rfl, ⟨h3, fun q => s.sep i j x y a hj e ey e1 (q ▸ h1)⟩, h4, h5.anti k⟩
      | bor y => exact h2.elim
      | ref n => exact h2
  · by_cases hj : i = j
    · subst hj
      rw [List.getElem?_set_self hi] at e2; cases e2
    · rw [List.getElem?_set_ne hj] at e2
      exact s.own j y b e2 e3
  · have hj : i ≠ j := fun q => by subst q; rw [List.getElem?_set_self hi] at e2; cases e2
    have hl : i ≠ l := fun q => by subst q; rw [List.getElem?_set_self hi] at e3; cases e3
    rw [List.getElem?_set_ne hj] at e2
    rw [List.getElem?_set_ne hl] at e3
    exact s.sep j l y z b ne e2 e3 e4 e5
/-- a local list is written -/
theorem StR.mutOwn (s : StR K M0 H0 hd M m σ H env ph) {x y : D} (e : env[i]? = some (some (.own x))) (e1 : σ[i]? = some (some (V.ref a))) (f : ∀ b o, b ≠ a → H b = some o → H' b = some o) (c : Cont K M H' a y) :
    StR K M0 H0 hd M m σ H' (env.set i (some (.own y))) ph := by
  obtain ⟨v, q1, a', ea, ma, am, _⟩ := s.er.2 i _ e
  rw [e1] at q1
  have e' : V.ref a = v := by simpa using q1
  subst e'
  cases ea
  have hi : i < env.length := (List.getElem?_eq_some_iff.mp e).1
  have k : KeepP M H H' := fun b o h n => f b o (fun q => n (q ▸ ma)) h
  have dom : ∀ b, M b → ∃ o, H' b = some o := fun b hb => by
    by_cases q : b = a
    · subst q; exact c.some
    · obtain ⟨o, h⟩ := s.rel.dom b hb
      exact ⟨o, f b o q h⟩
  refine ⟨⟨s.rel.len, s.rel.nd, s.rel.sub, dom, fun n b d z1 z2 => (s.rel.cont n b d z1 z2).keep k fun o h => f b o (fun q => am (q ▸ List.mem_of_getElem? z1)) h⟩, ⟨by simp [s.len], fun j z ez => ?_⟩, by simp [s.len], s.sub, s.mem, ?_,
    fun j z b e2 e3 => ?_, fun j l z w b ne e2 e3 e4 e5 => ?_, fun v d h => Rep.keep k d v (s.held v d h)⟩
  · by_cases hj : i = j
    · subst hj
      rw [List.getElem?_set_self hi] at ez; cases ez
      exact ⟨_, e1, a, rfl, ma, am, c⟩
    · rw [List.getElem?_set_ne hj] at ez
      obtain ⟨w, h1, h2⟩ := s.er.2 j z ez
      refine ⟨w, h1, ?_⟩
      cases z with
      | d z => exact Rep.keep k z w h2
      | own z =>
        obtain ⟨b, eb, h3, h4, h5⟩ := h2
        subst eb
        exact ⟨b, rfl, h3, h4, h5.keep k fun o h => f b o (fun q => s.sep i j x z a hj e ez e1 (q ▸ h1)) h⟩
      | bor z => exact h2.elim
      | ref n => exact h2
  · exact fun b o h n => f b o (fun q => by rw [q, (s.own i x a e e1).1] at h; cases h) (s.fr b o h n)
  · by_cases hj : i = j
    · subst hj
      rw [e1] at e3
      have e' : a = b := by simpa using e3
      subst e'
      exact s.own _ _ _ e e1
    · rw [List.getElem?_set_ne hj] at e2
      exact s.own j z b e2 e3
  · have get : ∀ (j : Nat) (z : D), (env.set i (some (.own y)))[j]? = some (some (.own z)) → ∃ z', env[j]? = some (some (.own z')) := fun j z ez => by
      by_cases hj : i = j
      · subst hj; exact ⟨_, e⟩
      · rw [List.getElem?_set_ne hj] at ez
        exact ⟨_, ez⟩
    obtain ⟨z', h1⟩ := get j z e2
    obtain ⟨w', h2⟩ := get l w e3
    exact s.sep j l z' w' b ne h1 h2 e4 e5
end

/-! ### blocks -/
def sSeq (s t : Sx) : Sx := fun env ph => (s env ph).bind t
def sNx : Sx := fun env ph => .nx env ph
section
variable {W : WX} {st : Stmt} {rest : List Stmt} {x y : Sx} {e : Expr} {xe : Ex} {pos : Pos}
theorem PostS.seq {M0 H0 hd m D} {o : Out} {t : Sx} (q : PostS X W M0 H0 hd m D (o.bind t)) (N : L2.St → Hp → Prop) (hN : ∀ env ph, PostS X W M0 H0 hd m D (t env ph) → ∀ M σ H, StR X.K M0 H0 hd M m σ H env ph → N σ H) : PostS X W M0 H0 hd m { D with nx := N } o := by
  cases o with
  | nx env ph => exact hN env ph q
  | _ => exact q
theorem b_nil : SB X W [] sNx := ⟨fun M0 H0 hd M m σ H env ph s D q => tWB_of pss_nil (q M σ H s)⟩
theorem b_cons (h : SS X W st x) (hs : SB X W rest y) : SB X W (st :: rest) (sSeq x y) := ⟨fun M0 H0 hd M m σ H env ph s D q => tWB_of (pss_cons tWS_ps tWB_ps)
  (h.run M0 H0 hd M m σ H env ph s _ (PostS.seq q _ fun env ph q M σ H s => hs.run M0 H0 hd M m σ H env ph s D q))⟩
theorem b_one (h : SS X W st x) : SB X W [st] x := ⟨fun M0 H0 hd M m σ H env ph s D q => tWB_of (pss_one tWS_ps) (h.run M0 H0 hd M m σ H env ph s D q)⟩
def sBk : Sx := fun env ph => .bk env ph
def sCt : Sx := fun env ph => .ct env ph
theorem st_pass : SS X W (.Pass pos) sNx := ⟨fun M0 H0 hd M m σ H env ph s D q => tWS_of ps_pass (q M σ H s)⟩
theorem st_break : SS X W (.Break pos) sBk := ⟨fun M0 H0 hd M m σ H env ph s D q => tWS_of ps_break (q M σ H s)⟩
theorem st_continue : SS X W (.Continue pos) sCt := ⟨fun M0 H0 hd M m σ H env ph s D q => tWS_of ps_continue (q M σ H s)⟩
theorem st_doc {x : Str} {j : Nat} {pos' : Pos} : SS X W (.Expr (.Constant (.str x) j pos) pos') sNx := ⟨fun M0 H0 hd M m σ H env ph s D q => tWS_of ps_doc (q M σ H s)⟩
def sBad : Sx := fun _ _ => .bad
theorem st_never : SS X W st sBad := ⟨fun M0 H0 hd M m σ H env ph s D q => q.elim⟩
/-- an expression whose value is dropped -/
def sDrop (x : Ex) : Sx := fun env ph => (x env ph).bindS env fun _ ph1 => .nx env ph1
theorem st_drop (h : SE X W e xe) (hs : swapsWith e none pos.line X.env = pure false := by rfl) : SS X W (.Expr e pos) (sDrop xe) := ⟨fun M0 H0 hd M m σ H env ph s D q => tWS_of (ps_expr tW_pe hs)
  (h.bindS s q fun val ph1 v H1 fr s1 rv ro q1 => q1 M σ H1 s1)⟩
/-- return e -/
def retV : Val → Option Val
  | .d x => some (.d x)
  | .own x => some (.own x)
  | _ => none
def sRet (x : Ex) : Sx := fun env ph => (x env ph).bindS env fun v ph1 => match retV v with
  | some w => .ret w ph1
  | none => .bad
theorem Rel.anti {K M M' m H ph} (r : Rel K M m H ph) (k : ∀ a, M' a → M a) (sub : ∀ a ∈ m, M' a) : Rel K M' m H ph := ⟨r.len, r.nd, sub, fun a z => r.dom a (k a z), fun n a d e1 e2 => (r.cont n a d e1 e2).anti k⟩
theorem st_ret (h : SE X W e xe) : SS X W (.Return (some e) pos) (sRet xe) := ⟨fun M0 H0 hd M m σ H env ph s D q => tWS_of (ps_ret tW_pe)
  (h.bindS s q fun val ph1 v H1 fr s1 rv ro q1 => by
    have r0 := s1.rel.anti s1.sub s1.mem
    cases val with
    | d x => exact q1 v H1 s1.fr r0 (Rep.anti s1.sub x v rv) RO.d
    | own x =>
      obtain ⟨a, rfl, h1, h2, h3⟩ := rv
      obtain ⟨ra, ca⟩ := ro x rfl a rfl
      have k : ∀ b, MAdd M0 a b → MAdd M a b := fun b z => z.imp (s1.sub b) id
      refine q1 _ H1 s1.fr r0 ⟨a, rfl, s.fr.back s.rel h1, fun z => h2 (s1.sub a z), h3.anti s1.sub⟩ fun d e b eb => ?_
      cases e; cases eb
      exact ⟨ra.anti k fun b z => .inl (s1.mem b z), ca.anti k⟩
    | bor x => exact q1.elim
    | ref n => exact q1.elim)⟩
def sRetN : Sx := fun _ ph => .ret (.d .non) ph
theorem st_retN : SS X W (.Return none pos) sRetN := ⟨fun M0 H0 hd M m σ H env ph s D q => tWS_of ps_retN (q .non H s.fr (s.rel.anti s.sub s.mem) (by rw [RV, Rep]) RO.d)⟩
/-- if -/
def sIf (t : Tx) (x y : Sx) : Sx := fun env ph => (t env ph).bindS env fun b ph1 => if b = true then x env ph1 else y env ph1
theorem st_if {c : Expr} {t : Tx} {a b : List Stmt} (hc : ST X W c t) (ha : SB X W a x) (hb : SB X W b y) : SS X W (.If c a b pos) (sIf t x y) := ⟨fun M0 H0 hd M m σ H env ph s D q => tWS_of (ps_if tWT_pt tWB_ps tWB_ps)
  (hc.bindS s q fun c ph1 H1 fr s1 q1 => by
    cases c with
    | true => exact ha.run M0 H0 hd M m σ H1 env ph1 s1 D q1
    | false => exact hb.run M0 H0 hd M m σ H1 env ph1 s1 D q1)⟩
/-- name = e: data; a list that the name alone holds -/
def sSet (i : Nat) (x : Ex) : Sx := fun env ph => (x env ph).bindS env fun v ph1 => match v.dat with
  | some d => .nx (env.set i (some (.d d))) ph1
  | none => .bad
def sOwn (i : Nat) (x : Ex) : Sx := fun env ph => (x env ph).bindS env fun v ph1 => match v with
  | .own d => .nx (env.set i (some (.own d))) ph1
  | _ => .bad
theorem set_core {i : Nat} (h : SE X W e xe) {M0 H0 hd M m σ H env ph} (s : StR X.K M0 H0 hd M m σ H env ph) {D : Ends} (q : PostS X W M0 H0 hd m D (sSet i xe env ph)) : tW X e σ H fun x H1 => gName i x σ H1 D.nx :=
  h.bindS s q fun val ph1 v H1 fr s1 rv ro q1 => by
    split at q1
    · rename_i d ed
      exact q1 M _ H1 (s1.setD (rv.dat ed))
    · exact q1.elim
theorem own_core {i : Nat} (h : SE X W e xe) {M0 H0 hd M m σ H env ph} (s : StR X.K M0 H0 hd M m σ H env ph) {D : Ends} (q : PostS X W M0 H0 hd m D (sOwn i xe env ph)) : tW X e σ H fun x H1 => gName i x σ H1 D.nx :=
  h.bindS s q fun val ph1 v H1 fr s1 rv ro q1 => by
    cases val with
    | own d =>
      obtain ⟨a, rfl, h1, h2, h3⟩ := rv
      obtain ⟨ra, ca⟩ := ro d rfl a rfl
      exact q1 _ _ H1 (s.setOwn fr ra ca h1 h2)
    | _ => exact q1.elim
variable {i : Nat} {n : Str} {pos' : Pos}
theorem st_set (hN : X.N.Nodup) (hi : X.N[i]? = some n) (hx : Loc X.env.scope n) (h : SE X W e xe) (hs : swapsWith e (some (.Name n pos')) pos.line X.env = pure false := by rfl) (hf : X.fn n = true ∨ X.env.scope.names.lookup n = some .local := by first | exact .inl rfl | exact .inr rfl | assumption) :
    SS X W (.Assign [.Name n pos'] e pos) (sSet i xe) := ⟨fun M0 H0 hd M m σ H env ph s D q => tWS_of (ps_set hN hi hx tW_pe hs hf) (set_core h s q)⟩
theorem st_own (hN : X.N.Nodup) (hi : X.N[i]? = some n) (hx : Loc X.env.scope n) (h : SE X W e xe) (hs : swapsWith e (some (.Name n pos')) pos.line X.env = pure false := by rfl) (hf : X.fn n = true ∨ X.env.scope.names.lookup n = some .local := by first | exact .inl rfl | exact .inr rfl | assumption) :
    SS X W (.Assign [.Name n pos'] e pos) (sOwn i xe) := ⟨fun M0 H0 hd M m σ H env ph s D q => tWS_of (ps_set hN hi hx tW_pe hs hf) (own_core h s q)⟩
/-- ahead of a statement: a local list becomes data -/
def sFrz (i : Nat) (s : Sx) : Sx := fun env ph => match env[i]? with
  | some (some (.own x)) => s (env.set i (some (.d x))) ph
  | _ => .bad
theorem st_frz (i : Nat) (h : SS X W st x) : SS X W st (sFrz i x) := ⟨fun M0 H0 hd M m σ H env ph s D q => by
  unfold sFrz at q
  split at q
  · rename_i y e
    obtain ⟨M', s'⟩ := s.frz e
    exact h.run M0 H0 hd M' m σ H _ ph s' D q
  · exact q.elim⟩
/-- while, at most so many turns -/
def sWhile (t : Tx) (b : Sx) : Nat → Sx
  | 0 => fun _ _ => .bad
  | n + 1 => fun env ph => (t env ph).bindS env fun c ph1 => if c = true then (match b env ph1 with
    | .nx env2 ph2 => sWhile t b n env2 ph2
    | .ct env2 ph2 => sWhile t b n env2 ph2
    | .bk env2 ph2 => .nx env2 ph2
    | o => o) else .nx env ph1
theorem st_while {c : Expr} {body : List Stmt} {t : Tx} {b : Sx} (n : Nat) (hp : PassesOwn (model X.prog X.w) X.A X.env X.xe) (hc : ST X W c t) (hb : SB X W body b) : SS X W (.While c body [] pos) (sWhile t b n) := ⟨fun M0 H0 hd M m σ H env ph s D q => tWS_of (ps_while hp tWT_pt tWB_ps) (by
  refine ⟨fun k σ H => ∃ M env ph, StR X.K M0 H0 hd M m σ H env ph ∧ PostS X W M0 H0 hd m D (sWhile t b k env ph), ⟨n, M, env, ph, s, q⟩, ?_⟩
  rintro k σ1 H1 ⟨M1, env1, ph1, s1, q1⟩
  cases k with
  | zero => exact q1.elim
  | succ k =>
    refine hc.bindS s1 q1 fun c ph2 H2 fr s2 q2 => ?_
    cases c with
    | false => exact q2 M1 σ1 H2 s2
    | true =>
      rw [if_pos rfl]
      refine ⟨fun σ H => ∃ M env ph, StR X.K M0 H0 hd M m σ H env ph ∧ PostS X W M0 H0 hd m D (sWhile t b k env ph), fun σ' H' h => ⟨k, Nat.lt_succ_self k, h⟩, ?_⟩
      refine hb.run M0 H0 hd M1 m σ1 H2 env1 ph2 s2 _ ?_
      have q3 : PostS X W M0 H0 hd m D (match b env1 ph2 with
        | .nx env2 ph2 => sWhile t b k env2 ph2
        | .ct env2 ph2 => sWhile t b k env2 ph2
        | .bk env2 ph2 => .nx env2 ph2
        | o => o) := q2
      cases hbo : b env1 ph2 with
      | nx env2 ph3 => rw [hbo] at q3; exact fun M' σ' H' s' => ⟨M', env2, ph3, s', q3⟩
      | ct env2 ph3 => rw [hbo] at q3; exact fun M' σ' H' s' => ⟨M', env2, ph3, s', q3⟩
      | bk env2 ph3 => rw [hbo] at q3; exact q3
      | ret v ph3 => rw [hbo] at q3; exact q3
      | exc c fs env2 ph3 => rw [hbo] at q3; exact q3
      | bad => rw [hbo] at q3; exact q3)⟩
end

/-! ### defs and calls -/
abbrev Fn := List Val → PH → Res Val
/-- what is handed to a def: data, cells by name -/
def argOf : Val → Option Val
  | .d x => some (.d x)
  | .own x => some (.d x)
  | .ref n => some (.ref n)
  | .bor _ => none
def argsOf : List Val → Option (List Val)
  | [] => some []
  | x :: xs => match argOf x, argsOf xs with
    | some y, some ys => some (y :: ys)
    | _, _ => none
def IsArg : Val → Prop
  | .d _ => True
  | .ref _ => True
  | _ => False
theorem RV.arg {K M m H0 H v y} : ∀ {x : Val}, RV K M m H0 H v x → argOf x = some y → IsArg y ∧ ∀ H1, RV K M m H1 H v y
  | .d x, h, e => by cases e; exact ⟨trivial, fun _ => h⟩
  | .own x, ⟨a, e1, n, nm, c⟩, e => by cases e; subst e1; exact ⟨trivial, fun _ => c.rep nm⟩
  | .bor x, h, e => by cases e
  | .ref n, h, e => by cases e; exact ⟨trivial, fun _ => h⟩
theorem RVs.args {K M m H0 H} : ∀ {xs ys : List Val} {vs : List V}, RVs K M m H0 H vs xs → argsOf xs = some ys → (∀ y ∈ ys, IsArg y) ∧ ∀ H1, RVs K M m H1 H vs ys
  | [], ys, vs, h, e => by
    cases e
    exact ⟨fun _ z => absurd z (by simp), fun _ => h⟩
  | x :: xs, ys, vs, ⟨w, ws, e1, h1, h2⟩, e => by
    rw [argsOf] at e
    split at e
    · rename_i y ys' q1 q2
      cases e
      obtain ⟨a1, a2⟩ := h1.arg q1
      obtain ⟨b1, b2⟩ := RVs.args h2 q2
      exact ⟨fun z hz => (List.mem_cons.mp hz).elim (fun q => q ▸ a1) (b1 z), fun H1 => ⟨w, ws, e1, a2 H1, b2 H1⟩⟩
    · cases e
/-- a def's promise: it does as the function -/
def spF (mg : Str → Option Value) (K : PySem.W.Frag) (n : Nat) (f : Fn) : Sp := fun vs H Q E => vs.length = n ∧ ∃ M m ph args, Rel K M m H ph ∧ (∀ y ∈ args, IsArg y) ∧ RVs K M m H H vs args ∧ match f args ph with
  | .ok x ph' => ∀ v H', Frame m H H' → Rel K M m H' ph' → RV K M m H H' v x → RO K M m H' ph' v x → Q v H'
  | .exc c fs ph' => ∀ cls d H', Frame m H H' → Rel K M m H' ph' → ExR mg K M H' c fs cls d → E cls d H'
  | .bad => False
structure FnAt (P : Program) (w : World) (K : PySem.W.Frag) (mg : Str → Option Value) (base : Heap) (k : Nat) (name : Str) (n : Nat) (f : Fn) : Prop where
  ex : ∃ (a : Addr) (fd : FuncData) (ps : List Str), FnOk P w K mg base (L2.CX P w) k a fd ps (spF mg K n f) ∧ mg name = some (.ref a) ∧ PySem.W.keepIn K (.ref a) = true ∧ Binds K fd ps []
theorem FnAt.mono {P w K mg base j k name n f} (h : FnAt P w K mg base j name n f) (l : j ≤ k) : FnAt P w K mg base k name n f := let ⟨a, fd, ps, h1, h2⟩ := h.ex; ⟨⟨a, fd, ps, h1.mono l, h2⟩⟩
def runF (n : Nat) (body : Sx) : Fn := fun args ph => match body (args.map some ++ List.replicate (n - args.length) none) ph with
  | .ret v ph' => .ok v ph'
  | .nx _ ph' => .ok (.d .non) ph'
  | .exc c fs _ ph' => .exc c fs ph'
  | _ => .bad
theorem start_rel {K M m H N} {vs : List V} {args : List Val} (r : RVs K M m H H vs args) (ia : ∀ y ∈ args, IsArg y) : EnvR K M m (L2.start N vs) H (args.map some ++ List.replicate (N.length - args.length) none) ∧ ∀ (i : Nat) (x : D), (args.map some ++ List.replicate (N.length - args.length) none)[i]? ≠ some (some (.own x)) := by
  have get : ∀ {args : List Val} {vs : List V} {i : Nat} {x : Val}, RVs K M m H H vs args → args[i]? = some x → ∃ v, vs[i]? = some v ∧ RV K M m H H v x := by
    intro args
    induction args with
    | nil => intro vs i x _ e; simp at e
    | cons y ys ih =>
      rintro vs i x ⟨w, ws, rfl, h1, h2⟩ e
      cases i with
      | zero => simp at e; subst e; exact ⟨w, rfl, h1⟩
      | succ i => obtain ⟨v, e1, e2⟩ := ih h2 (by simpa using e); exact ⟨v, by simpa using e1, e2⟩
  have at_ : ∀ (i : Nat) (x : Val), (args.map some ++ List.replicate (N.length - args.length) none)[i]? = some (some x) → args[i]? = some x := fun i x e => by
    by_cases hi : i < args.length
    · rw [List.getElem?_append_left (by simpa using hi), List.getElem?_map] at e
      cases q : args[i]? with
      | none => rw [q] at e; cases e
      | some a => rw [q] at e; simpa using e
    · rw [List.getElem?_append_right (by simpa using hi), List.getElem?_replicate] at e
      split at e <;> cases e
  refine ⟨⟨by unfold L2.start; simp [r.length], fun i x e => ?_⟩, fun i x e => ?_⟩
  · have ea := at_ i x e
    obtain ⟨v, e1, e2⟩ := get r ea
    have hi : i < vs.length := (List.getElem?_eq_some_iff.mp e1).1
    refine ⟨v, ?_, ?_⟩
    · unfold L2.start
      rw [List.getElem?_append_left (by simpa using hi), List.getElem?_map, e1]; rfl
    · have := ia x (List.mem_of_getElem? ea)
      cases x with
      | d x => exact e2
      | own x => exact this.elim
      | bor x => exact this.elim
      | ref n => exact e2
  · have := ia _ (List.mem_of_getElem? (at_ i _ e))
    exact this.elim
/-- a def of the text by its body -/
theorem fn_at {P : Program} {w : World} {K : PySem.W.Frag} {mg : Str → Option Value} {base : Heap} {x qual : Str} {st : Stmt} {f : Addr} {fd : FuncData} {N ps : List Str} {k : Nat} {body : Sx} (F : Fun K x qual st f fd) (S : FnScope N ps (defScope st)) (hm : mg x = some (.ref f)) (hb : Binds K fd ps [])
    (hbody : ∀ (cdv : Value) (A : Around) (outer : List PySem.Env) (s : Shared) (H : Hp) (E : XK), Room k (A.deeper (PyProof.Rows.envOfC qual (defScope st) s.heap.objs.size f cdv)) →
      SB (cxOf (L2.CX P w) P w K mg base N qual (defScope st) f cdv A outer s H E) (fun cls d _ H => E cls d H) (defBody st) body) : FnAt P w K mg base (k + 1) x ps.length (runF N.length body) := by
  refine ⟨f, fd, ps, F.okX S (fun vs H Q E h => h.1) (fun cdv A outer s H vs Q E hr h => ?_), hm, F.kp, hb⟩
  obtain ⟨hl, M, m, ph, args, r, ia, rv, q⟩ := h
  obtain ⟨er, no⟩ := start_rel (N := N) rv ia
  have la := rv.length
  refine ⟨_, tWB_ps, (hbody cdv A outer s H E hr).run M H (fun _ _ => False) M m _ H (args.map some ++ List.replicate (N.length - args.length) none) ph ⟨r, er, by unfold L2.start; simp [la], fun _ z => z, r.sub, Frame.refl, fun i x a e => absurd e (no i x), fun i j x y a _ e => absurd e (no i x), fun _ _ z => z.elim⟩ _ ?_⟩
  have q : match runF N.length body args ph with
    | .ok x ph' => ∀ v H', Frame m H H' → Rel K M m H' ph' → RV K M m H H' v x → RO K M m H' ph' v x → Q v H'
    | .exc c fs ph' => ∀ cls d H', Frame m H H' → Rel K M m H' ph' → ExR mg K M H' c fs cls d → E cls d H'
    | .bad => False := q
  unfold runF at q
  cases hb : body (args.map some ++ List.replicate (N.length - args.length) none) ph with
  | ret v ph' => rw [hb] at q; exact q
  | nx env' ph' => rw [hb] at q; exact fun M' σ' H' s' => q .non H' s'.fr (s'.rel.anti s'.sub s'.mem) (by rw [RV, Rep]) RO.d
  | exc c fs env' ph' =>
    rw [hb] at q
    refine fun M' σ' H' cls d s' ex => q cls d H' s'.fr (s'.rel.anti s'.sub s'.mem) ?_
    obtain ⟨C, e1, e2, e3⟩ := ex
    refine ⟨C, e1, e2, ?_⟩
    cases fs with
    | nil => exact e3
    | cons p t => obtain ⟨dd, v, z1, z2, z3⟩ := e3; exact ⟨dd, v, z1, z2, Rep.anti s'.sub _ _ z3⟩
  | bk env' ph' => rw [hb] at q; exact q.elim
  | ct env' ph' => rw [hb] at q; exact q.elim
  | bad => rw [hb] at q; exact q.elim

def eCall (f : Fn) (xs : Ax) : Ex := fun env ph => (xs env ph).bind fun vs ph1 => match argsOf vs with
  | some as => f as ph1
  | none => .bad
section
variable {W : WX} {k : Nat} {name : Str} {f : Fn} {e : Expr} {es : List Expr} {xs : Ax} {p pos : Pos} {nn : Nat}
theorem call_core {M : Addr → Prop} {m : List Addr} {σ : L2.St} {H H1 : Hp} {ph1 : PH} {vals as : List Val} {vs : List V} {Q : VK} (tk : Takes X W) (hl : vs.length = nn) (fr : Frame m H H1) (r1 : Rel X.K M m H1 ph1) (rv : RVs X.K M m H H1 vs vals) (ea : argsOf vals = some as) (q : Post X W M m σ H1 (GE X M m H Q) (f as ph1)) :
    spF X.mg X.K nn f vs H1 Q (WE W σ) := by
  obtain ⟨ia, ra⟩ := rv.args ea
  refine ⟨hl, M, m, ph1, as, r1, ia, ra H1, ?_⟩
  cases hf : f as ph1 with
  | ok x ph' => rw [hf] at q; exact GE.at fr r1 q
  | exc c fs ph' => rw [hf] at q; exact q
  | bad => rw [hf] at q; exact q
theorem s_call (F : FnAt X.prog X.w X.K X.mg X.base k name nn f) (hr : Room k X.A) (tk : Takes X W) (ha : SA X W (e :: es) xs) (hn : (e :: es).length = nn := by rfl) (hg : Gl X name := by rfl) (hdb : (name == ("__debug__" : Str)) = false := by decide)
    (he : starEach (e :: es) X.env = (false, eval e X.env) :: starEach es X.env := by rfl) (hpl : (backTo pos (starEach es X.env)).any (·.1) = false := by rfl) (hlen : ∀ env ph vals ph', xs env ph = .ok vals ph' → vals.length = (e :: es).length) : SE X W (.Call (.Name name p) (e :: es) [] pos) (eCall f xs) := by
  obtain ⟨a, fd, ps, FO, hm, hk, hb⟩ := F.ex
  refine ⟨fun M m σ H env ph r er Q q => tW_of (pe_callS FO hr hg hm hk hb (fun σ => passAt tk σ) tWA_pa hdb he hpl) ?_⟩
  have q' : Post X W M m σ H (GE X M m H Q) ((xs env ph).bind fun vs ph1 => match argsOf vs with
    | some as => f as ph1
    | none => .bad) := q
  cases hx : xs env ph with
  | bad => rw [hx] at q'; exact q'.elim
  | exc c fs ph1 => rw [hx] at q'; refine ha.run M m σ H env ph r er _ ?_; rw [hx]; exact q'
  | ok vals ph1 =>
    rw [hx] at q'
    refine ha.run M m σ H env ph r er _ ?_
    rw [hx]
    intro vs H1 fr r1 rv
    have q2 : Post X W M m σ H (GE X M m H Q) (match argsOf vals with
      | some as => f as ph1
      | none => .bad) := q'
    split at q2
    · rename_i as ea
      exact call_core tk (by rw [rv.length, hlen env ph vals ph1 hx]; exact hn) fr r1 rv ea (Post.step fr q2)
    · exact q2.elim
theorem s_call0 (F : FnAt X.prog X.w X.K X.mg X.base k name 0 f) (hr : Room k X.A) (tk : Takes X W) (hg : Gl X name := by rfl) (hdb : (name == ("__debug__" : Str)) = false := by decide) : SE X W (.Call (.Name name p) [] [] pos) (fun _ ph => f [] ph) := by
  obtain ⟨a, fd, ps, FO, hm, hk, hb⟩ := F.ex
  refine ⟨fun M m σ H env ph r er Q q pins s I => ?_⟩
  refine wpAny_Call_Name_kw (ld_glob I hg hm ?_ hdb)
  exact PySem.W.callWith_K0 I.kIn hk (run_fnS (us := []) (E := WE W) FO hr hb (passAt tk σ) I .nil (call_core (vals := []) tk rfl Frame.refl r rfl rfl q))
/-- the length of a row -/
theorem len_nil : ∀ env ph vals ph', aNil env ph = .ok vals ph' → vals.length = ([] : List Expr).length := fun env ph vals ph' h => by cases h; rfl
theorem len_cons {x : Ex} {xs : Ax} {e : Expr} {es : List Expr} (h : ∀ env ph vals ph', xs env ph = .ok vals ph' → vals.length = es.length) : ∀ env ph vals ph', aCons x xs env ph = .ok vals ph' → vals.length = (e :: es).length := fun env ph vals ph' q => by
  unfold aCons at q
  cases hx : x env ph with
  | ok v ph1 =>
    rw [hx, Res.bind_ok] at q
    cases hxs : xs env ph1 with
    | ok vs ph2 =>
      rw [hxs, Res.bind_ok] at q
      cases q
      simp [h env ph1 vs _ hxs]
    | exc c fs ph2 => rw [hxs] at q; cases q
    | bad => rw [hxs] at q; cases q
  | exc c fs ph1 => rw [hx] at q; cases q
  | bad => rw [hx] at q; cases q
end
end Pyp

/-! What is walked: lists and tuples, one or two, with places. -/
namespace Pyp
open PySem PySem.Spec PyProof.Rows L2

/-- enumerate(v) begins, v anything that is walked -/
theorem meets_enumB {v : Value} {o : Obj} {H1 : Heap → Prop} (B : Begins v o H1) :
    Meets (Builtin.«enumerate.__new__» ⟨[.type "enumerate", v], []⟩) (fun _ R s => H1 s.heap ∧
      R (.ok (.ret (.ref (s.heap.push o).objs.size)))
        { s with heap := (s.heap.push o).push { cls := .type "enumerate", data := .fields #[.none, .bool false, .ref s.heap.objs.size, rawInt 0, .none, .none] } }) :=
  .of_wp fun prog w A R s h => by
    obtain ⟨hp, g, d, tk, os⟩ := s
    obtain ⟨h1, h⟩ := h
    have hsub := sub_enumerate
    have q1 : ∀ {A' : Around} {E : Value → Shared → Prop} {Q : Value → Shared → Prop}, Q (.ref hp.objs.size) ⟨hp.push o, g, d, tk, os⟩ → wpAny (model prog w) A' (pyIter v) Q E ⟨hp, g, d, tk, os⟩ :=
      fun q => B.iter prog w _ _ ⟨hp, g, d, tk, os⟩ _ h1 q
    wp_walk
    refine wpAny_stack_any fun st => wpAny_pure ?_
    split
    · rename_i c _ _ _ _ _
      cases (c == Value.type "enumerate")
      · wp_walk using q1
        exact ⟨_, rfl, h⟩
      · wp_walk using q1
        exact ⟨_, rfl, h⟩
    · wp_walk using q1
      exact ⟨_, rfl, h⟩
theorem enum_begins {prog : Program} {w : World} {A : Around} {E : Value → Shared → Prop} {s : Shared} {v : Value} {o : Obj} {H1 : Heap → Prop} {Q : Value → Shared → Prop} (B : Begins v o H1) (h1 : H1 s.heap)
    (h : ∀ h', IsEnum h' (s.heap.objs.size + 1) s.heap.objs.size 0 .none → h'.get? s.heap.objs.size = some o → h'.objs.size = s.heap.objs.size + 2 →
      (∀ b o, s.heap.get? b = some o → h'.get? b = some o) → Q (.ref (s.heap.objs.size + 1)) { s with heap := h' }) :
    wpAny (model prog w) A (call (.type "enumerate") [v]) Q E s := by
  refine callType_new F.called_enumerate (by decide) (F.typeCall_enumerate_1 _) (F.newCall_enumerate_1 _) (fun obj => F.args_object_init_2 obj _) F.entry_enumerate_new
    (meets_enumB B) ⟨h1, ?_⟩
  have hz : (s.heap.push o).objs.size = s.heap.objs.size + 1 := Heap.size_push ..
  show _ ∧ _
  rw [hz]
  have he : IsEnum ((s.heap.push o).push { cls := .type "enumerate", data := .fields #[.none, .bool false, .ref s.heap.objs.size, rawInt 0, .none, .none] }) (s.heap.objs.size + 1) s.heap.objs.size 0 .none := by
    have := Heap.get?_push_size (s.heap.push o) (o := { cls := .type "enumerate", data := .fields #[.none, .bool false, .ref s.heap.objs.size, rawInt 0, .none, .none] }) rfl
    rw [hz] at this; exact this
  exact ⟨⟨_, he, rfl⟩, h _ he (Heap.get?_push_of_some _ (Heap.get?_push_size _ B.free)) (by rw [Heap.size_push, hz]) fun b o x => Heap.get?_push_of_some _ (Heap.get?_push_of_some _ x)⟩

/-! ### list or tuple: t says which -/
def Sq (t : Bool) (K : PySem.W.Frag) (H : Hp) (a : Addr) (xs : List V) : Prop := if t = true then SqT K H a xs else SqL K H a xs
def SeqIs (t : Bool) (h : Heap) (a : Addr) (its : Array Value) : Prop := if t = true then h.IsTuple a its else h.IsList a its
def ItS (t : Bool) (h : Heap) (it a : Addr) (i : Nat) : Prop := if t = true then h.IsTupleIter it a i else h.IsListIter it a i
def itO (t : Bool) (a : Addr) : Obj := if t = true then { cls := .type "tuple_iterator", data := .fields #[.ref a, .int 0 0] } else { cls := .type "list_iterator", data := .fields #[.ref a, .int 0 0] }
theorem begins_seq (t : Bool) (a : Addr) (its : Array Value) : Begins (.ref a) (itO t a) fun h => SeqIs t h a its := by
  cases t with
  | true => exact begins_tuple a its
  | false => exact begins_list a its
theorem draws_seq {prog : Program} {w : World} {A : Around} (hh : A.handled = none) (t : Bool) (it a : Addr) (hne : a ≠ it) (its : Array Value) :
    Draws prog w A it [it, a] its.size (fun i v => its[i]? = some v) (fun i h => ItS t h it a i ∧ SeqIs t h a its) := by
  cases t with
  | true => exact Draws.tuple hh it a hne its
  | false => exact Draws.list hh it a hne its
theorem ItS.start {t : Bool} {h : Heap} {it a : Addr} (e : h.get? it = some (itO t a)) : ItS t h it a 0 := by
  cases t with
  | true => exact ⟨_, e, rfl, rfl⟩
  | false => exact ⟨_, e, rfl, rfl⟩
theorem ItS.obj {t : Bool} {h : Heap} {it a : Addr} {i : Nat} (e : ItS t h it a i) : ∃ o, h.get? it = some o ∧ ∀ v, o.data ≠ .cell v := by
  cases t with
  | true => obtain ⟨o, h1, _, h2⟩ := (show h.IsTupleIter it a i from e); exact ⟨o, h1, fun v z => by rw [h2] at z; cases z⟩
  | false => obtain ⟨o, h1, _, h2⟩ := (show h.IsListIter it a i from e); exact ⟨o, h1, fun v z => by rw [h2] at z; cases z⟩
theorem ItS.at {t : Bool} {h h' : Heap} {it a : Addr} {i : Nat} (e : ItS t h it a i) (k : ∀ o, h.get? it = some o → h'.get? it = some o) : ItS t h' it a i := by
  cases t with
  | true => exact Heap.IsTupleIter.at (show h.IsTupleIter it a i from e) k
  | false => exact Heap.IsListIter.at (show h.IsListIter it a i from e) k
section
variable {X : Cx} {pins : List (Addr × Obj)} {σ : L2.St} {H : Hp} {s : Shared} {a : Addr} {xs ys : List V} {t : Bool}
theorem inv_seq (I : Inv X pins σ H s) (h : Sq t X.K H a xs) : ∃ its : List Value, Vals xs its ∧ SeqIs t s.heap a its.toArray ∧ a < s.heap.objs.size := by
  cases t with
  | true =>
    obtain ⟨its, r, p, _⟩ := I.tuple (show SqT X.K H a xs from h)
    obtain ⟨o, e, _⟩ := id p
    exact ⟨its, r, p, Heap.lt_size e⟩
  | false =>
    obtain ⟨its, r, p, _⟩ := I.list (show SqL X.K H a xs from h)
    exact ⟨its, r, p.isList, p.lt⟩
theorem seq_inj (I : Inv X pins σ H s) (h : Sq t X.K H a xs) (h' : Sq t X.K H a ys) : xs = ys := by
  cases t with
  | true => exact I.tuple_inj (show SqT X.K H a xs from h) (show SqT X.K H a ys from h')
  | false => exact I.list_inj (show SqL X.K H a xs from h) (show SqL X.K H a ys from h')
end

/-! ### one -/
def ItO (t : Bool) (K : PySem.W.Frag) (a : Addr) : It := if t = true then Itt K a else Itl K a
def iSeq (K : PySem.W.Frag) (tl : TE) : TI := fun σ H R => tl σ H fun x H1 => ∃ t a, x = .ref a ∧ (∃ xs, Sq t K H1 a xs) ∧ R (ItO t K a) H1
theorem pi_seq {X : Cx} {tg l : Expr} {tl : TE} (hl : PE X l tl) : PI X tg l (iSeq X.K tl) := by
  refine ⟨fun pins s σ H R I h => ?_⟩
  refine thn (hl.run pins s σ H _ I h) fun v s1 ⟨x, H1, I1, r1, q1⟩ => ?_
  obtain ⟨t, a, e, ⟨xs, hq⟩, q⟩ := q1
  subst e
  cases r1
  have fresh : ∀ b ∈ [s1.heap.objs.size], FpOk X pins H1 b := fun b hb => by
    have e : b = s1.heap.objs.size := by simpa using hb
    subst e
    exact I1.fpOk (Nat.le_refl _) (I1.hok.fresh (Nat.le_refl _))
  cases t with
  | true =>
    obtain ⟨its, rv, p, hz⟩ := I1.tuple (show SqT X.K H1 a xs from hq)
    refine wpAny_pyIter_tuple (show s1.heap.IsTuple a its.toArray from p) ?_
    exact ⟨s1.heap.objs.size, [s1.heap.objs.size], _, _, H1, rfl, I1.kept (t' := s1.toks) fun b o e => Heap.get?_push_of_some _ e, turn_tuple a _, ⟨_, Heap.get?_push_size _ rfl, rfl, rfl⟩, fresh, q⟩
  | false =>
    obtain ⟨its, rv, p, hz⟩ := I1.list (show SqL X.K H1 a xs from hq)
    refine wpAny_pyIter_list p.isList ?_
    exact ⟨s1.heap.objs.size, [s1.heap.objs.size], _, _, H1, rfl, I1.kept (t' := s1.toks) fun b o e => Heap.get?_push_of_some _ e, turn_list a _, ⟨_, Heap.get?_push_size _ rfl, rfl, rfl⟩, fresh, q⟩

/-! ### enumerate -/
def ItE (t : Bool) (K : PySem.W.Frag) (a : Addr) : It :=
  ⟨fun i H => ∃ (xs : List V) (x : V), Sq t K H a xs ∧ xs[i]? = some x, fun i H v H' => ∃ T x, v = .ref T ∧ H T = none ∧ H' = upd H T (.tup [.int (i : Nat), x]) ∧ ∀ xs, Sq t K H a xs → xs[i]? = some x, fun i H => ∃ xs : List V, Sq t K H a xs ∧ xs.length = i⟩
theorem turn_enumS {P : Program} {w : World} {K : PySem.W.Frag} {elts : List Expr} {kk : Nat} {tpos : Pos} (t : Bool) (a e it : Addr) (hae : a ≠ e) (hai : a ≠ it) :
    Turn P w K (.Tuple elts kk tpos) (ItE t K a) [e, it] e (fun i h => (∃ old, IsEnum h e it ((i : Nat) : Int) old) ∧ ItS t h it a i ∧ e ≠ it) where
  mem := by simp
  obj := fun i h st b hb => by
    obtain ⟨⟨old, he⟩, hi, _⟩ := st
    have e' : b = e ∨ b = it := by simpa using hb
    rcases e' with z | z
    · rw [z]; exact ⟨_, he, fun v q => nomatch q⟩
    · rw [z]; exact hi.obj
  keep := fun i h h' st k => let ⟨⟨old, he⟩, hi, hne⟩ := st; ⟨⟨old, k e (by simp) _ he⟩, hi.at fun o q => k it (by simp) o q, hne⟩
  item := by
    intro X hP hw hK hc i pins s σ H E I hf st hg
    subst hP hw hK
    obtain ⟨⟨old, he⟩, hit, hne⟩ := st
    obtain ⟨xs, x, hq, hx⟩ := hg
    obtain ⟨its, rv, p, _⟩ := inv_seq I hq
    obtain ⟨u, hu, ru⟩ := rv.get hx
    have hel : e < s.heap.objs.size := Heap.lt_size he
    have hil : it < s.heap.objs.size := by obtain ⟨_, q, _⟩ := hit.obj; exact Heap.lt_size q
    have hlt : i < its.toArray.size := by simpa using (List.getElem?_eq_some_iff.mp hu).1
    have hef : e ∉ [it, a] := by simp only [List.mem_cons, List.not_mem_nil, or_false, not_or]; exact ⟨hne, fun q => hae q.symm⟩
    refine wpAny_pyNext_enum_itemD (draws_seq (A := X.A.in1) (I.ok.hd hc) t it a hai its.toArray) he ⟨hit, p⟩ hlt hne hef fun y h' tk hy ho hit' hT hsz hk => ?_
    have ey : y = u := by
      have h1 : its[i]? = some y := by simpa using hy
      rw [hu] at h1; exact (Option.some.inj h1).symm
    subst ey
    refine ⟨_, rfl, wpAny_letOwnedTupleGo_enum (s := { s with heap := h', toks := tk + 1 }) ho fun h'' he' sb => ?_⟩
    have hT2 : h''.get? s.heap.objs.size = some { cls := .type "tuple", data := .seq #[.int i tk, y] } := (sb.2 _ (Nat.ne_of_gt hel)).trans hT
    have new : ObjOk X.prog X.w (upd H s.heap.objs.size (.tup [.int (i : Nat), x])) h'' s.heap.objs.size (.tup [.int (i : Nat), x]) :=
      ⟨by show 2 ≤ sizeLine; decide, [.int i tk, y], .cons ⟨_, rfl⟩ (.cons ru .nil), ⟨_, hT2, rfl, _, rfl⟩⟩
    have I1 : Inv X pins σ (upd H s.heap.objs.size (.tup [.int (i : Nat), x])) { s with heap := h'', toks := tk + 1 } :=
      I.turnedNew (ch := [e, it]) (fun b ob hb q => (sb.2 b (fun z => hb (by simp [z]))).trans (hk b ob (fun z => hb (by simp [z])) (fun z => hb (by simp [z])) q)) hf (Nat.le_refl _) new
    refine ⟨.ref s.heap.objs.size, _, I1, rfl, ⟨_, x, rfl, I.hok.fresh (Nat.le_refl _), rfl, fun ys hy => by rw [seq_inj I hy hq]; exact hx⟩, ⟨⟨y, ?_⟩, hit'.1.at fun o q => (sb.2 it (Ne.symm hne)).trans q, hne⟩, fun b hb => ?_⟩
    · have e1 : ((i + 1 : Nat) : Int) = (i : Int) + 1 := by omega
      rw [e1]; exact he'
    · have hb' : b < s.heap.objs.size := by
        have e' : b = e ∨ b = it := by simpa using hb
        rcases e' with z | z
        · rw [z]; exact hel
        · rw [z]; exact hil
      rw [upd_ne (Nat.ne_of_lt hb')]
      exact (hf b hb).1
  done := by
    intro X hP hw hK hc i pins s σ H E I hf st hg
    subst hP hw hK
    obtain ⟨⟨old, he⟩, hit, hne⟩ := st
    obtain ⟨xs, hq, hx⟩ := hg
    obtain ⟨its, rv, p, _⟩ := inv_seq I hq
    obtain ⟨f0, f1, f2, f3, f4, f5⟩ := hf it (by simp)
    have hl := rv.length
    have hs : i = its.toArray.size := by simp; omega
    subst hs
    exact wpAny_pyNext_enum_endD (draws_seq (A := X.A.in1) (I.ok.hd hc) t it a hai its.toArray) he ⟨hit, p⟩ fun h' eb => ⟨rfl, I.turned (t' := s.toks) (fun b o hb q => eb b o hb q) f0 f1 f3 f4 f5⟩
  self := fun A i s Q E st h => let ⟨⟨_, he⟩, _⟩ := st; wpAny_pyIter_enum he h
def iEnumS (K : PySem.W.Frag) (ta : TA) : TI := fun σ H R => ta σ H fun vs H1 => ∃ t a xs, vs = [.ref a] ∧ Sq t K H1 a xs ∧ R (ItE t K a) H1
theorem pi_enumS {X : Cx} {e : Expr} {ta : TA} {p pos tpos : Pos} {elts : List Expr} {kk : Nat} (hg : Gl X "enumerate") (hm : X.mg "enumerate" = none) (ha : PA X [e] ta) (hs : starEach [e] X.env = [(false, eval e X.env)] := by rfl) :
    PI X (.Tuple elts kk tpos) (.Call (.Name "enumerate" p) [e] [] pos) (iEnumS X.K ta) := by
  refine ⟨fun pins s σ H R I h => ?_⟩
  refine Call_ (ld_blt I hg hm boot_enumerate (PyProof.Rows.callWith_type1 (thn (ha.run pos pins s σ H _ I h) fun us s1 ⟨vs, H1, I1, r1, q1⟩ => ?_) hs rfl))
  obtain ⟨t, a, xs, ex, hq, q⟩ := q1
  subst ex
  cases r1 with
  | cons r rr =>
    cases rr
    cases r
    obtain ⟨its, rv, p', hlt⟩ := inv_seq I1 hq
    refine enum_begins (begins_seq t a its.toArray) p' fun h' he hit hsz hk => wpAny_pyIter_enum he ?_
    have I2 : Inv X pins σ H1 { s1 with heap := h' } := I1.kept (t' := s1.toks) hk
    refine ⟨s1.heap.objs.size + 1, [s1.heap.objs.size + 1, s1.heap.objs.size], _, _, H1, rfl, I2, turn_enumS t a (s1.heap.objs.size + 1) s1.heap.objs.size (Nat.ne_of_lt (Nat.lt_succ_of_lt hlt)) (Nat.ne_of_lt hlt), ⟨⟨.none, he⟩, ItS.start hit, Nat.succ_ne_self _⟩, fun b hb => ?_, q⟩
    have e' : b = s1.heap.objs.size + 1 ∨ b = s1.heap.objs.size := by simpa using hb
    have hle : s1.heap.objs.size ≤ b := by
      rcases e' with z | z
      · rw [z]; exact Nat.le_add_right _ _
      · rw [z]; exact Nat.le_refl _
    exact I1.fpOk hle (I1.hok.fresh hle)

/-! ### zip -/
def ItZ (t u : Bool) (K : PySem.W.Frag) (a b : Addr) : It :=
  ⟨fun i H => ∃ (xs ys : List V) (x y : V), Sq t K H a xs ∧ Sq u K H b ys ∧ xs[i]? = some x ∧ ys[i]? = some y,
    fun i H v H' => ∃ T x y, v = .ref T ∧ H T = none ∧ H' = upd H T (.tup [x, y]) ∧ (∀ xs, Sq t K H a xs → xs[i]? = some x) ∧ ∀ ys, Sq u K H b ys → ys[i]? = some y,
    fun i H => ∃ xs ys : List V, Sq t K H a xs ∧ Sq u K H b ys ∧ i ≤ xs.length ∧ i ≤ ys.length ∧ (xs.length = i ∨ ys.length = i)⟩
theorem turn_zipS {P : Program} {w : World} {K : PySem.W.Frag} {elts : List Expr} {kk : Nat} {tpos : Pos} (t u : Bool) {a b z TI TO i1 i2 : Addr} (D : ZipSep2 z TI TO i1 i2 [i1, a] [i2, b]) (h1a : a ≠ i1) (h2b : b ≠ i2) :
    Turn P w K (.Tuple elts kk tpos) (ItZ t u K a b) [z, TI, TO, i1, i2] z (fun i h => IsZip h z TI TO .none ∧ IsTupOf2 h TI (.ref i1) (.ref i2) ∧ (∃ x y, IsTupOf2 h TO x y) ∧ ItS t h i1 a i ∧ ItS u h i2 b i) where
  mem := by simp
  obj := fun i h st c hc => by
    obtain ⟨hz, hTI, ⟨x, y, hTO⟩, h1, h2⟩ := st
    have e' : c = z ∨ c = TI ∨ c = TO ∨ c = i1 ∨ c = i2 := by simpa using hc
    rcases e' with q | q | q | q | q
    · rw [q]; exact ⟨_, hz, fun v q => nomatch q⟩
    · rw [q]; exact ⟨_, hTI, fun v q => nomatch q⟩
    · rw [q]; exact ⟨_, hTO, fun v q => nomatch q⟩
    · rw [q]; exact h1.obj
    · rw [q]; exact h2.obj
  keep := fun i h h' st k => by
    obtain ⟨hz, hTI, ⟨x, y, hTO⟩, h1, h2⟩ := st
    exact ⟨k z (by simp) _ hz, k TI (by simp) _ hTI, ⟨x, y, k TO (by simp) _ hTO⟩, h1.at fun o q => k i1 (by simp) o q, h2.at fun o q => k i2 (by simp) o q⟩
  item := by
    intro X hP hw hK hc i pins s σ H E I hf st hg
    subst hP hw hK
    obtain ⟨hz, hTI, ⟨x0, y0, hTO⟩, h1, h2⟩ := st
    obtain ⟨xs, ys, x, y, hqx, hqy, hx, hy⟩ := hg
    obtain ⟨its, rv, p, _⟩ := inv_seq I hqx
    obtain ⟨its2, rv2, p2, _⟩ := inv_seq I hqy
    obtain ⟨v1, hu, ru⟩ := rv.get hx
    obtain ⟨v2, hu2, ru2⟩ := rv2.get hy
    have hzl : z < s.heap.objs.size := Heap.lt_size hz
    have hlt1 : i < its.toArray.size := by simpa using (List.getElem?_eq_some_iff.mp hu).1
    have hlt2 : i < its2.toArray.size := by simpa using (List.getElem?_eq_some_iff.mp hu2).1
    refine wpAny_pyNext_zipD2_item D (draws_seq (A := X.A.in1) (I.ok.hd hc) t i1 a h1a its.toArray) (draws_seq (A := X.A.in1) (I.ok.hd hc) u i2 b h2b its2.toArray) hz hTI hTO ⟨h1, p⟩ ⟨h2, p2⟩ hlt1 hlt2
      fun w1 w2 h' tk e1 e2 z' TO' h1' h2' hT hsz hk => ?_
    have ew1 : w1 = v1 := by
      have q : its[i]? = some w1 := by simpa using e1
      rw [hu] at q; exact (Option.some.inj q).symm
    have ew2 : w2 = v2 := by
      have q : its2[i]? = some w2 := by simpa using e2
      rw [hu2] at q; exact (Option.some.inj q).symm
    subst ew1 ew2
    refine ⟨_, rfl, wpAny_letOwnedTupleGo_zip (s := { s with heap := h', toks := tk }) z' fun h'' z'' sb => ?_⟩
    have hT2 : h''.get? s.heap.objs.size = some { cls := .type "tuple", data := .seq #[w1, w2] } := (sb.2 _ (Nat.ne_of_gt hzl)).trans hT
    have new : ObjOk X.prog X.w (upd H s.heap.objs.size (.tup [x, y])) h'' s.heap.objs.size (.tup [x, y]) :=
      ⟨by show 2 ≤ sizeLine; decide, [w1, w2], .cons ru (.cons ru2 .nil), ⟨_, hT2, rfl, _, rfl⟩⟩
    have I1 : Inv X pins σ (upd H s.heap.objs.size (.tup [x, y])) { s with heap := h'', toks := tk } :=
      I.turnedNew (t' := tk) (ch := [z, TI, TO, i1, i2]) (fun c o hb q => (sb.2 c (fun q' => hb (by simp [q']))).trans (hk c o (fun q' => hb (by simp [q'])) (fun q' => hb (by simp [q'])) (fun q' => hb (by simp [q'])) (fun q' => hb (by simp [q'])) q)) hf (Nat.le_refl _) new
    refine ⟨.ref s.heap.objs.size, _, I1, rfl, ⟨_, x, y, rfl, I.hok.fresh (Nat.le_refl _), rfl, fun l hl => by rw [seq_inj I hl hqx]; exact hx, fun l hl => by rw [seq_inj I hl hqy]; exact hy⟩, ⟨z'', ?_, ⟨w1, w2, ?_⟩, ?_, ?_⟩, fun c hcm => ?_⟩
    · exact (sb.2 _ D.TIz).trans (hk _ _ D.TIz D.TITO D.TIi1 D.TIi2 hTI)
    · exact (sb.2 _ D.TOz).trans TO'
    · exact h1'.1.at fun o q => (sb.2 _ (Ne.symm D.zi1)).trans q
    · exact h2'.1.at fun o q => (sb.2 _ (Ne.symm D.zi2)).trans q
    · have hlt : c < s.heap.objs.size := by
        have e' : c = z ∨ c = TI ∨ c = TO ∨ c = i1 ∨ c = i2 := by simpa using hcm
        rcases e' with q | q | q | q | q
        · rw [q]; exact hzl
        · rw [q]; exact Heap.lt_size hTI
        · rw [q]; exact Heap.lt_size hTO
        · rw [q]; obtain ⟨_, e1, _⟩ := h1.obj; exact Heap.lt_size e1
        · rw [q]; obtain ⟨_, e2, _⟩ := h2.obj; exact Heap.lt_size e2
      rw [upd_ne (Nat.ne_of_lt hlt)]
      exact (hf c hcm).1
  done := by
    intro X hP hw hK hc i pins s σ H E I hf st hg
    subst hP hw hK
    obtain ⟨hz, hTI, ⟨x0, y0, hTO⟩, h1, h2⟩ := st
    obtain ⟨xs, ys, hqx, hqy, hl1, hl2, hend⟩ := hg
    obtain ⟨its, rv, p, _⟩ := inv_seq I hqx
    obtain ⟨its2, rv2, p2, _⟩ := inv_seq I hqy
    have l1 := rv.length
    have l2 := rv2.length
    exact wpAny_pyNext_zipD2_end D (draws_seq (A := X.A.in1) (I.ok.hd hc) t i1 a h1a its.toArray) (draws_seq (A := X.A.in1) (I.ok.hd hc) u i2 b h2b its2.toArray) hz hTI hTO ⟨h1, p⟩ ⟨h2, p2⟩ (by simp; omega) (by simp; omega) (by simp; omega)
      fun h' tk hk => ⟨rfl, I.turnedL (t' := tk) (ch := [z, TI, TO, i1, i2]) (fun c o hb q =>
      hk c o (fun q' => hb (by simp [q'])) (fun q' => hb (by simp [q'])) (fun q' => hb (by simp [q'])) (fun q' => hb (by simp [q'])) q) hf⟩
  self := fun A i s Q E st h => wpAny_pyIter_zip st.1 h
def iZipS (K : PySem.W.Frag) (ta : TA) : TI := fun σ H R => ta σ H fun vs H1 => ∃ t u a b xs ys, vs = [.ref a, .ref b] ∧ Sq t K H1 a xs ∧ Sq u K H1 b ys ∧ R (ItZ t u K a b) H1
theorem sep_of (n a b : Nat) (ha : a < n) (hb : b < n) : ZipSep2 (n + 4) (n + 2) (n + 3) n (n + 1) [n, a] [n + 1, b] where
  TIz := by show n + 2 ≠ n + 4; omega
  TOz := by show n + 3 ≠ n + 4; omega
  TITO := by show n + 2 ≠ n + 3; omega
  TIi1 := by show n + 2 ≠ n; omega
  mem1 := by simp
  zf1 := by simp only [List.mem_cons, List.not_mem_nil, or_false, not_or]; exact ⟨by show n + 4 ≠ n; omega, by show n + 4 ≠ a; omega⟩
  Tf1 := by simp only [List.mem_cons, List.not_mem_nil, or_false, not_or]; exact ⟨by show n + 3 ≠ n; omega, by show n + 3 ≠ a; omega⟩
  TIi2 := by show n + 2 ≠ n + 1; omega
  mem2 := by simp
  zf2 := by simp only [List.mem_cons, List.not_mem_nil, or_false, not_or]; exact ⟨by show n + 4 ≠ n + 1; omega, by show n + 4 ≠ b; omega⟩
  Tf2 := by simp only [List.mem_cons, List.not_mem_nil, or_false, not_or]; exact ⟨by show n + 3 ≠ n + 1; omega, by show n + 3 ≠ b; omega⟩
  sep1_2 := by simp only [List.mem_cons, List.not_mem_nil, or_false, not_or]; exact ⟨by show n ≠ n + 1; omega, by show n ≠ b; omega⟩
  sep2_1 := by simp only [List.mem_cons, List.not_mem_nil, or_false, not_or]; exact ⟨by show n + 1 ≠ n; omega, by show n + 1 ≠ a; omega⟩
theorem pi_zipS {X : Cx} {e e2 : Expr} {ta : TA} {p pos tpos : Pos} {elts : List Expr} {kk : Nat} (hg : Gl X "zip") (hm : X.mg "zip" = none) (ha : PA X [e, e2] ta)
    (hs : starEach [e, e2] X.env = (false, eval e X.env) :: starEach [e2] X.env := by rfl) (hpl : (backTo pos (starEach [e2] X.env)).any (·.1) = false := by rfl) :
    PI X (.Tuple elts kk tpos) (.Call (.Name "zip" p) [e, e2] [] pos) (iZipS X.K ta) := by
  refine ⟨fun pins s σ H R I h => ?_⟩
  refine Call_ (ld_blt I hg hm PyProof.Rows.boot_zip (PyProof.Rows.callWith_type1 (thn (ha.run pos pins s σ H _ I h) fun us s1 ⟨vs, H1, I1, r1, q1⟩ => ?_) hs hpl))
  obtain ⟨t, u, a, b, xs, ys, ex, hqx, hqy, q⟩ := q1
  subst ex
  cases r1 with
  | cons r rr =>
    cases rr with
    | cons r' rr =>
      cases rr
      cases r
      cases r'
      obtain ⟨its, rv, p1, la⟩ := inv_seq I1 hqx
      obtain ⟨its2, rv2, p2, lb⟩ := inv_seq I1 hqy
      refine zip_begins2 (begins_seq t a its.toArray) (begins_seq u b its2.toArray) p1 p2 fun h' hz hTI hTO h1 h2 hsz hk => wpAny_pyIter_zip hz ?_
      have I2 : Inv X pins σ H1 { s1 with heap := h' } := I1.kept (t' := s1.toks) hk
      have la' : a ≠ s1.heap.objs.size := Nat.ne_of_lt la
      have lb' : b ≠ s1.heap.objs.size + 1 := Nat.ne_of_lt (Nat.lt_succ_of_lt lb)
      refine ⟨s1.heap.objs.size + 4, [s1.heap.objs.size + 4, s1.heap.objs.size + 2, s1.heap.objs.size + 3, s1.heap.objs.size, s1.heap.objs.size + 1], _, _, H1, rfl, I2, turn_zipS t u (sep_of s1.heap.objs.size a b la lb) la' lb', ⟨hz, hTI, ⟨_, _, hTO⟩, ItS.start h1, ItS.start h2⟩, fun c hcm => ?_, q⟩
      have e' : c = s1.heap.objs.size + 4 ∨ c = s1.heap.objs.size + 2 ∨ c = s1.heap.objs.size + 3 ∨ c = s1.heap.objs.size ∨ c = s1.heap.objs.size + 1 := by simpa using hcm
      have hle : s1.heap.objs.size ≤ c := by
        rcases e' with z | z | z | z | z
        · rw [z]; exact Nat.le_add_right _ _
        · rw [z]; exact Nat.le_add_right _ _
        · rw [z]; exact Nat.le_add_right _ _
        · rw [z]; exact Nat.le_refl _
        · rw [z]; exact Nat.le_add_right _ _
      exact I1.fpOk hle (I1.hok.fresh hle)
end Pyp

/-! Targets, for, comprehensions. -/
namespace Pyp
open PySem PySem.Spec PyProof.Rows L2
variable {X : Cx}

/-! ### targets -/
def tWG (X : Cx) (tg : Expr) : TG := fun v σ H Q => ∀ pins s u, Inv X pins σ H s → RelV v u → wpAny (model X.prog X.w) X.A (assign tg X.env u) (fun _ s' => ∃ σ' H', Inv X pins σ' H' s' ∧ Q σ' H') X.xe s
theorem tWG_pg {tg : Expr} : PG X tg (tWG X tg) := ⟨fun pins s σ H v u Q I r h => h pins s u I r⟩
theorem tWG_of {tg : Expr} {t : TG} {v : V} {σ : L2.St} {H : Hp} {Q : L2.St → Hp → Prop} (h : PG X tg t) (q : t v σ H Q) : tWG X tg v σ H Q := fun pins s u I r => h.run pins s σ H v u Q I r q
def tWGs (X : Cx) (ts : List Expr) : TGs := fun vs σ H Q => ∀ pins s us, Inv X pins σ H s → Vals vs us → wpAny (model X.prog X.w) X.A (assignInOrder ((assignEach ts X.env).map (·.2)) us) (fun _ s' => ∃ σ' H', Inv X pins σ' H' s' ∧ Q σ' H') X.xe s
theorem tWGs_pgs {ts : List Expr} : PGs X ts (tWGs X ts) := ⟨fun pins s σ H vs us Q I r h => h pins s us I r⟩
theorem tWGs_of {ts : List Expr} {t : TGs} {vs : List V} {σ : L2.St} {H : Hp} {Q : L2.St → Hp → Prop} (h : PGs X ts t) (q : t vs σ H Q) : tWGs X ts vs σ H Q := fun pins s us I r => h.run pins s σ H vs us Q I r q

abbrev Gx := D → Env → Option Env
abbrev Gsx := List D → Env → Option Env
structure SG (X : Cx) (tg : Expr) (g : Gx) (sl : List Nat) : Prop where
  run : ∀ M m σ H env ph d v env', Rel X.K M m H ph → EnvR X.K M m σ H env → env.length = σ.length → Rep X.K M H d v → g d env = some env' → ∀ Q, (∀ σ' H', Frame m H H' → Rel X.K M m H' ph → EnvR X.K M m σ' H' env' → Chg sl σ σ' env env' → Q σ' H') → tWG X tg v σ H Q
structure SGs (X : Cx) (ts : List Expr) (g : Gsx) (sl : List Nat) : Prop where
  run : ∀ M m σ H env ph ds vs env', Rel X.K M m H ph → EnvR X.K M m σ H env → env.length = σ.length → Reps X.K M H ds vs → g ds env = some env' → ∀ Q, (∀ σ' H', Frame m H H' → Rel X.K M m H' ph → EnvR X.K M m σ' H' env' → Chg sl σ σ' env env' → Q σ' H') → tWGs X ts vs σ H Q
def gN (i : Nat) : Gx := fun d env => some (env.set i (some (.d d)))
def gsNil : Gsx := fun ds env => match ds with
  | [] => some env
  | _ => none
def gsCons (g : Gx) (gs : Gsx) : Gsx := fun ds env => match ds with
  | d :: ds => (g d env).bind fun env1 => gs ds env1
  | [] => none
def gT (n : Nat) (gs : Gsx) : Gx := fun d env => match d with
  | .tup ds => if ds.length = n then gs ds env else none
  | .lst ds => if ds.length = n then gs ds env else none
  | _ => none
section
variable {pos : Pos} {e : Expr} {es : List Expr} {g : Gx} {gs : Gsx} {sl sl' : List Nat}
theorem g_name (i : Nat) {n : Str} (hN : X.N.Nodup) (hi : X.N[i]? = some n := by rfl) (hx : Loc X.env.scope n := by first | exact .inl rfl | exact .inr rfl) (hf : X.fn n = true ∨ X.env.scope.names.lookup n = some .local := by first | exact .inl rfl | exact .inr rfl) : SG X (.Name n pos) (gN i) [i] :=
  ⟨fun M m σ H env ph d v env' rl er hl r h Q q => tWG_of (pg_name hN hi hx hf) (by
    cases h
    exact q _ H Frame.refl rl (er.set hl r) (Chg.one hl))⟩
theorem gs_nil : SGs X [] gsNil [] := ⟨fun M m σ H env ph ds vs env' rl er hl r h Q q => tWGs_of pgs_nil (by
  cases ds with
  | nil => cases h; rw [Reps] at r; exact ⟨r, q σ H Frame.refl rl er Chg.refl⟩
  | cons d ds => cases h)⟩
theorem gs_cons (h1 : SG X e g sl) (h2 : SGs X es gs sl') (hs : (assignEach (e :: es) X.env).map (·.2) = assign e X.env :: (assignEach es X.env).map (·.2) := by rfl) : SGs X (e :: es) (gsCons g gs) (sl ++ sl') :=
  ⟨fun M m σ H env ph ds vs env' rl er hl r h Q q => tWGs_of (pgs_cons tWG_pg tWGs_pgs hs) (by
    cases ds with
    | nil => cases h
    | cons d ds =>
      rw [Reps] at r
      obtain ⟨v, vs, rfl, r1, r2⟩ := r
      have h' : (g d env).bind (fun env1 => gs ds env1) = some env' := h
      cases hg : g d env with
      | none => rw [hg] at h'; cases h'
      | some env1 =>
        rw [hg] at h'
        refine ⟨v, vs, rfl, h1.run M m σ H env ph d v env1 rl er hl r1 hg _ fun σ1 H1 f1 rl1 er1 c1 => ?_⟩
        exact h2.run M m σ1 H1 env1 ph ds vs env' rl1 er1 (by rw [c1.lenE, c1.lenS, hl]) (Reps.keep (f1.keep rl) _ _ r2) h' Q fun σ2 H2 f2 rl2 er2 c2 => q σ2 H2 (f1.trans f2) rl2 er2 (c1.trans c2))⟩
theorem g_tup {k : Nat} (n : Nat) (hc : X.calm = true) (h : SGs X es gs sl) (hn : (assignEach es X.env).length = n := by rfl) (hst : (assignEach es X.env).findIdx? (·.1) = none := by rfl) : SG X (.Tuple es k pos) (gT n gs) sl :=
  ⟨fun M m σ H env ph d v env' rl er hl r hg Q q => by
    cases d with
    | tup ds =>
      have hg' : (if ds.length = n then gs ds env else none) = some env' := hg
      split at hg'
      · rename_i hl2
        rw [Rep] at r
        obtain ⟨a, xs, e, t, rs⟩ := r
        exact tWG_of (pg_tup hc tWGs_pgs hn hst) ⟨a, xs, e, t.sq, by rw [rs.length]; exact hl2, h.run M m σ H env ph ds xs env' rl er hl rs hg' Q q⟩
      · cases hg'
    | lst ds =>
      have hg' : (if ds.length = n then gs ds env else none) = some env' := hg
      split at hg'
      · rename_i hl2
        rw [Rep] at r
        obtain ⟨a, xs, e, t, rs⟩ := r
        exact tWG_of (pg_lst hc tWGs_pgs hn hst) ⟨a, xs, e, t.sq, by rw [rs.length]; exact hl2, h.run M m σ H env ph ds xs env' rl er hl rs hg' Q q⟩
      · cases hg'
    | _ => cases hg⟩
/-- target = e -/
def sAsg (g : Gx) (x : Ex) : Sx := fun env ph => (x env ph).bindS env fun v ph1 => match v.dat.bind fun d => g d env with
  | some env1 => .nx env1 ph1
  | none => .bad
theorem st_asg {W : WX} {tg : Expr} {x : Ex} (he : SE X W e x) (hg : SG X tg g sl) (hs : swapsWithSole [tg] e pos.line X.env = pure false := by rfl) (hw : swappedStores [tg] e X.env = pure none := by rfl)
    (h1 : (assignEach [tg] X.env).map (·.2) = [assign tg X.env] := by rfl) : SS X W (.Assign [tg] e pos) (sAsg g x) := ⟨fun M0 H0 hd M m σ H env ph s D q => tWS_of (ps_asg tW_pe tWG_pg hs hw h1)
  (he.bindS s q fun val ph1 v H1 fr s1 rv ro q1 => by
    split at q1
    · rename_i env1 e1
      cases hd' : val.dat with
      | none => rw [hd'] at e1; cases e1
      | some d =>
        rw [hd'] at e1
        exact hg.run M m σ H1 env ph1 d v env1 s1.rel s1.er s1.len (rv.dat hd') e1 _ fun σ' H' f' r' er' c => q1 M σ' H' ((s1.keep f' r').chg c er')
    · exact q1.elim)⟩
end

/-! ### what is walked -/
abbrev Ix := Env → PH → Res (List D)
def tWI (X : Cx) (tg iter : Expr) : TI := fun σ H R => ∀ pins s, Inv X pins σ H s → wpAny (model X.prog X.w) X.A (eval iter X.env) (fun v s1 => wpAny (model X.prog X.w) X.A (pyIter v) (PIE X pins σ tg R) X.xe s1) X.xe s
theorem tWI_pi {tg iter : Expr} : PI X tg iter (tWI X tg iter) := ⟨fun pins s σ H R I h => h pins s I⟩
theorem tWI_of {tg iter : Expr} {t : TI} {σ : L2.St} {H : Hp} {R : It → Hp → Prop} (h : PI X tg iter t) (q : t σ H R) : tWI X tg iter σ H R := fun pins s I => h.run pins s σ H R I q
def Grow (H H' : Hp) : Prop := H' = H ∨ ∃ p o, H p = none ∧ H' = upd H p o
theorem Grow.frame {H H' : Hp} {m : List Addr} (g : Grow H H') : Frame m H H' := by
  rcases g with rfl | ⟨p, o, hp, rfl⟩
  · exact Frame.refl
  · exact Frame.new hp
theorem Grow.rel {K M m H H' ph} (g : Grow H H') (r : Rel K M m H ph) : Rel K M m H' ph := by
  rcases g with rfl | ⟨p, o, hp, rfl⟩
  · exact r
  · exact r.new hp
/-- what is walked stands as long as the code runs -/
def Held (K : PySem.W.Frag) (M : Addr → Prop) (m : List Addr) (H : Hp) (v : V) (d : D) : Prop := Rep K M H d v ∨ ∃ a, v = .ref a ∧ a ∉ m ∧ Cont K M H a d
theorem Held.cr {K M m H v d} (h : Held K M m H v d) : CR K M H d v := h.elim Rep.cr fun ⟨_, e, _, c⟩ => e ▸ c.cr
theorem Held.keep {K M m H H' ph v d} (r : Rel K M m H ph) (f : Frame m H H') (h : Held K M m H v d) : Held K M m H' v d :=
  h.imp (Rep.keep (f.keep r) d v) fun ⟨a, e, n, c⟩ => ⟨a, e, n, c.keep (f.keep r) fun o z => f a o z n⟩
structure Drv (K : PySem.W.Frag) (J : It) (ds : List D) (hd : V → D → Prop) : Prop where
  goes : ∀ (i : Nat) H M, (∀ v d, hd v d → CR K M H d v) → i < ds.length → J.go i H
  stops : ∀ H M, (∀ v d, hd v d → CR K M H d v) → J.stop ds.length H
  yields : ∀ (i : Nat) H M x H' d, (∀ v d, hd v d → CR K M H d v) → (∀ a, M a → ∃ o, H a = some o) → ds[i]? = some d → J.yld i H x H' → Grow H H' ∧ Rep K M H' d x
/-- b: only what nobody writes -/
structure SI (X : Cx) (W : WX) (tg iter : Expr) (it : Ix) (b : Bool) : Prop where
  run : ∀ M m σ H env ph, Rel X.K M m H ph → EnvR X.K M m σ H env → ∀ R, Post X W M m σ H (fun ds ph' => ∀ J hd H', Frame m H H' → Rel X.K M m H' ph' → (∀ v d, hd v d → Held X.K M m H' v d) → (b = true → ∀ v d, hd v d → Rep X.K M H' d v) → Drv X.K J ds hd → R J H') (it env ph) → tWI X tg iter σ H R

def seqD : D → Option (List D)
  | .tup ds => some ds
  | .lst ds => some ds
  | _ => none
def Val.see : Val → Option D
  | .d x => some x
  | .own x => some x
  | .bor x => some x
  | .ref _ => none
theorem CR.seq {K M H d v ds} (h : CR K M H d v) (e : seqD d = some ds) : ∃ t a xs, v = .ref a ∧ Sq t K H a xs ∧ Reps K M H ds xs := by
  cases d with
  | tup es =>
    cases e
    have h' : Rep K M H (.tup ds) v := h
    rw [Rep] at h'
    obtain ⟨a, xs, e, t, r⟩ := h'
    exact ⟨true, a, xs, e, t.sq, r⟩
  | lst es =>
    cases e
    obtain ⟨a, xs, e, t, r⟩ := h
    exact ⟨false, a, xs, e, SqL.of t, r⟩
  | _ => cases e
/-- the kind that stays -/
theorem CR.seqT {K M H d a ds} (h : CR K M H d (.ref a)) (e : seqD d = some ds) : ∃ xs, Sq (match d with | .tup _ => true | _ => false) K H a xs ∧ Reps K M H ds xs := by
  cases d with
  | tup es =>
    cases e
    have h' : Rep K M H (.tup ds) (.ref a) := h
    rw [Rep] at h'
    obtain ⟨a', xs, e, t, r⟩ := h'
    cases e
    exact ⟨xs, t.sq, r⟩
  | lst es =>
    cases e
    obtain ⟨a', xs, e, t, r⟩ := h
    cases e
    exact ⟨xs, SqL.of t, r⟩
  | _ => cases e
def isT : D → Bool
  | .tup _ => true
  | _ => false
theorem RV.held {K M m H0 H ph v d} (r : Rel K M m H ph) : ∀ {x : Val}, RV K M m H0 H v x → x.see = some d → Held K M m H v d
  | .d x, h, e => by cases e; exact .inl h
  | .own x, ⟨a, e1, n, nm, c⟩, e => by cases e; subst e1; exact .inl (c.rep nm)
  | .bor x, ⟨a, e1, n, nm, c⟩, e => by cases e; subst e1; exact .inr ⟨a, rfl, nm, c⟩
  | .ref n, h, e => by cases e
theorem dat_see : ∀ {x : Val} {d : D}, x.dat = some d → x.see = some d
  | .d _, _, h => h
  | .own _, _, h => h
  | .bor _, _, h => nomatch h
  | .ref _, _, h => nomatch h
/-- for comprehensions (b false): any; for loops: data -/
def Val.wlk (b : Bool) (v : Val) : Option D := if b = true then v.dat else v.see
theorem RV.wlk {K M m H0 H ph v d x b} (r : Rel K M m H ph) (h : RV K M m H0 H v x) (e : Val.wlk b x = some d) : Held K M m H v d ∧ (b = true → Rep K M H d v) := by
  unfold Val.wlk at e
  split at e
  · exact ⟨h.held r (dat_see e), fun _ => h.dat e⟩
  · rename_i hb
    exact ⟨h.held r e, fun z => absurd z hb⟩
def iSeqX (b : Bool) (x : Ex) : Ix := fun env ph => (x env ph).bind fun v ph1 => Res.of ((v.wlk b).bind seqD) ph1
def one (v : V) (d : D) : V → D → Prop := fun w e => w = v ∧ e = d
theorem drv_seq {K : PySem.W.Frag} {a : Addr} {d : D} {ds : List D} (e : seqD d = some ds) : Drv K (ItO (isT d) K a) ds (one (.ref a) d) := by
  have at_ : ∀ H M, (∀ v d', one (.ref a) d v d' → CR K M H d' v) → ∃ xs, Sq (isT d) K H a xs ∧ Reps K M H ds xs := fun H M h => by
    obtain ⟨xs, h1, h2⟩ := (h _ _ ⟨rfl, rfl⟩).seqT e
    exact ⟨xs, by cases d <;> exact h1, h2⟩
  refine ⟨fun i H M h hi => ?_, fun H M h => ?_, fun i H M x H' d' h _ hd y => ?_⟩
  · obtain ⟨xs, h1, h2⟩ := at_ H M h
    have hl := h2.length
    have hx : xs[i]? = some (xs[i]'(by omega)) := List.getElem?_eq_getElem (by omega)
    unfold ItO
    split
    · rename_i z; unfold Sq at h1; rw [if_pos z] at h1; exact ⟨xs, _, h1, hx⟩
    · rename_i z; unfold Sq at h1; rw [if_neg z] at h1; exact ⟨xs, _, h1, hx⟩
  · obtain ⟨xs, h1, h2⟩ := at_ H M h
    have hl := h2.length
    unfold ItO
    split
    · rename_i z; unfold Sq at h1; rw [if_pos z] at h1; exact ⟨xs, h1, Nat.le_of_eq hl⟩
    · rename_i z; unfold Sq at h1; rw [if_neg z] at h1; exact ⟨xs, h1, Nat.le_of_eq hl⟩
  · obtain ⟨xs, h1, h2⟩ := at_ H M h
    have key : H' = H ∧ xs[i]? = some x := by
      unfold ItO at y
      split at y
      · rename_i z; unfold Sq at h1; rw [if_pos z] at h1; exact ⟨y.1, y.2 xs h1⟩
      · rename_i z; unfold Sq at h1; rw [if_neg z] at h1; exact ⟨y.1, y.2 xs h1⟩
    obtain ⟨rfl, hx⟩ := key
    obtain ⟨d2, e1, e2⟩ := h2.get' hx
    rw [hd] at e1; cases e1
    exact ⟨.inl rfl, e2⟩
section
variable {W : WX} {tg e e1 e2 : Expr} {x : Ex} {xs : Ax} {pos p : Pos} {b : Bool}
theorem Post.ofI {M m σ H} {G : List D → PH → Prop} {o : Option (List D)} {ph : PH} (q : Post X W M m σ H G (Res.of o ph)) : ∃ ds, o = some ds ∧ G ds ph := by
  cases o with
  | none => exact q.elim
  | some v => exact ⟨v, rfl, q⟩
theorem i_seq (b : Bool) (h : SE X W e x) : SI X W tg e (iSeqX b x) b := ⟨fun M m σ H env ph r er R q => tWI_of (pi_seq tW_pe) (by
  refine h.bind r er q fun v ph1 w H1 fr r1 er1 rv ro q1 => ?_
  obtain ⟨ds, eo, g⟩ := Post.ofI q1
  cases hs : v.wlk b with
  | none => rw [hs] at eo; cases eo
  | some d =>
    rw [hs] at eo
    have eo' : seqD d = some ds := eo
    obtain ⟨hh, hr⟩ := rv.wlk r1 hs
    obtain ⟨t, a, xs, ev, sq, _⟩ := hh.cr.seq eo'
    subst ev
    obtain ⟨ys, sq2, _⟩ := hh.cr.seqT eo'
    refine ⟨isT d, a, rfl, ⟨ys, by cases d <;> exact sq2⟩, g (ItO (isT d) X.K a) (one (.ref a) d) H1 fr r1 (fun v' d' z => ?_) (fun hb v' d' z => ?_) (drv_seq eo')⟩
    · obtain ⟨rfl, rfl⟩ := z; exact hh
    · obtain ⟨rfl, rfl⟩ := z; exact hr hb)⟩
/-- enumerate -/
def enumD : Nat → List D → List D
  | _, [] => []
  | n, d :: ds => .tup [.int n, d] :: enumD (n + 1) ds
theorem enumD_length : ∀ (ds : List D) (n : Nat), (enumD n ds).length = ds.length
  | [], _ => rfl
  | _ :: ds, n => by simp [enumD, enumD_length ds (n + 1)]
theorem enumD_get : ∀ (ds : List D) (n i : Nat) (d : D), (enumD n ds)[i]? = some d → ∃ d', ds[i]? = some d' ∧ d = .tup [.int ((n + i : Nat) : Int), d']
  | [], _, _, _, h => by simp [enumD] at h
  | x :: ds, n, 0, d, h => by
    simp [enumD] at h
    subst h
    exact ⟨x, rfl, by simp⟩
  | x :: ds, n, i + 1, d, h => by
    simp only [enumD, List.getElem?_cons_succ] at h
    obtain ⟨d', h1, h2⟩ := enumD_get ds (n + 1) i d h
    refine ⟨d', by simpa using h1, ?_⟩
    rw [h2]
    have : n + 1 + i = n + (i + 1) := by omega
    rw [this]
def iEnumX (b : Bool) (xs : Ax) : Ix := fun env ph => (xs env ph).bind fun vs ph1 => match vs with
  | [v] => Res.of (((v.wlk b).bind seqD).map (enumD 0)) ph1
  | _ => .bad
theorem drv_enum {K : PySem.W.Frag} {a : Addr} {d : D} {ds : List D} (e : seqD d = some ds) : Drv K (ItE (isT d) K a) (enumD 0 ds) (one (.ref a) d) := by
  have at_ : ∀ H M, (∀ v d', one (.ref a) d v d' → CR K M H d' v) → ∃ xs, Sq (isT d) K H a xs ∧ Reps K M H ds xs := fun H M h => by
    obtain ⟨xs, h1, h2⟩ := (h _ _ ⟨rfl, rfl⟩).seqT e
    exact ⟨xs, by cases d <;> exact h1, h2⟩
  refine ⟨fun i H M h hi => ?_, fun H M h => ?_, fun i H M x H' d' h dm hd y => ?_⟩
  · obtain ⟨xs, h1, h2⟩ := at_ H M h
    have hl := h2.length
    rw [enumD_length] at hi
    exact ⟨xs, xs[i]'(by omega), h1, List.getElem?_eq_getElem (by omega)⟩
  · obtain ⟨xs, h1, h2⟩ := at_ H M h
    rw [enumD_length]
    exact ⟨xs, h1, h2.length⟩
  · obtain ⟨xs, h1, h2⟩ := at_ H M h
    obtain ⟨T, z, rfl, hT, rfl, hz⟩ := y
    obtain ⟨d2, e1, e2⟩ := h2.get' (hz xs h1)
    obtain ⟨d3, e3, rfl⟩ := enumD_get ds 0 i d' hd
    rw [e3] at e1; cases e1
    have nT : ¬ M T := fun q => by obtain ⟨o, q⟩ := dm T q; rw [hT] at q; cases q
    refine ⟨.inr ⟨T, _, hT, rfl⟩, ?_⟩
    rw [Rep]
    refine ⟨T, _, rfl, .inl ⟨nT, .inl upd_same⟩, .cons ?_ (.cons (Rep.keep (keep_new hT) _ _ e2) .nil)⟩
    rw [Rep]; simp
theorem i_enum (b : Bool) {elts : List Expr} {kk : Nat} {tpos : Pos} (ha : SA X W [e] xs) (hm : X.mg "enumerate" = none) (hg : Gl X "enumerate" := by rfl) (hs : starEach [e] X.env = [(false, eval e X.env)] := by rfl) : SI X W (.Tuple elts kk tpos) (.Call (.Name "enumerate" p) [e] [] pos) (iEnumX b xs) b :=
  ⟨fun M m σ H env ph r er R q => tWI_of (pi_enumS hg hm tWA_pa hs) (by
  refine ha.bind r er q fun vs ph1 ws H1 fr r1 er1 rv q1 => ?_
  match vs, rv, q1 with
  | [v], ⟨w, ws', e1, rv1, e2⟩, q1 =>
    subst e1
    have e2' : ws' = [] := e2
    subst e2'
    obtain ⟨ds, eo, g⟩ := Post.ofI q1
    cases hs : v.wlk b with
    | none => rw [hs] at eo; cases eo
    | some d =>
      rw [hs] at eo
      cases hq : seqD d with
      | none => rw [show (some d).bind seqD = seqD d from rfl, hq] at eo; cases eo
      | some es =>
        rw [show (some d).bind seqD = seqD d from rfl, hq] at eo
        cases eo
        obtain ⟨hh, hr⟩ := rv1.wlk r1 hs
        obtain ⟨t, a, xs, ev, sq, _⟩ := hh.cr.seq hq
        subst ev
        obtain ⟨ys, sq2, _⟩ := hh.cr.seqT hq
        refine ⟨isT d, a, ys, rfl, by cases d <;> exact sq2, g (ItE (isT d) X.K a) (one (.ref a) d) H1 fr r1 (fun v' d' z => ?_) (fun hb v' d' z => ?_) (drv_enum hq)⟩
        · obtain ⟨rfl, rfl⟩ := z; exact hh
        · obtain ⟨rfl, rfl⟩ := z; exact hr hb
  | [], _, q1 => exact q1.elim
  | _ :: _ :: _, _, q1 => exact q1.elim)⟩
/-- zip -/
def zipD : List D → List D → List D
  | a :: as, b :: bs => .tup [a, b] :: zipD as bs
  | _, _ => []
theorem zipD_length : ∀ (as bs : List D), (zipD as bs).length = min as.length bs.length
  | [], bs => by simp [zipD]
  | a :: as, [] => by simp [zipD]
  | a :: as, b :: bs => by simp [zipD, zipD_length as bs]
theorem zipD_get : ∀ (as bs : List D) (i : Nat) (d : D), (zipD as bs)[i]? = some d → ∃ a b, as[i]? = some a ∧ bs[i]? = some b ∧ d = .tup [a, b]
  | [], bs, i, d, h => by simp [zipD] at h
  | a :: as, [], i, d, h => by simp [zipD] at h
  | a :: as, b :: bs, 0, d, h => by simp [zipD] at h; subst h; exact ⟨a, b, rfl, rfl, rfl⟩
  | a :: as, b :: bs, i + 1, d, h => by
    simp only [zipD, List.getElem?_cons_succ] at h
    obtain ⟨x, y, h1, h2, h3⟩ := zipD_get as bs i d h
    exact ⟨x, y, by simpa using h1, by simpa using h2, h3⟩
def iZipX (b : Bool) (xs : Ax) : Ix := fun env ph => (xs env ph).bind fun vs ph1 => match vs with
  | [v, w] => match (v.wlk b).bind seqD, (w.wlk b).bind seqD with
    | some ds, some es => .ok (zipD ds es) ph1
    | _, _ => .bad
  | _ => .bad
def two (v w : V) (d e : D) : V → D → Prop := fun z f => (z = v ∧ f = d) ∨ (z = w ∧ f = e)
theorem drv_zip {K : PySem.W.Frag} {a b : Addr} {d d' : D} {ds es : List D} (e : seqD d = some ds) (e' : seqD d' = some es) : Drv K (ItZ (isT d) (isT d') K a b) (zipD ds es) (two (.ref a) (.ref b) d d') := by
  have at_ : ∀ H M, (∀ v z, two (.ref a) (.ref b) d d' v z → CR K M H z v) → (∃ xs, Sq (isT d) K H a xs ∧ Reps K M H ds xs) ∧ ∃ ys, Sq (isT d') K H b ys ∧ Reps K M H es ys := fun H M h => by
    obtain ⟨xs, h1, h2⟩ := (h _ _ (.inl ⟨rfl, rfl⟩)).seqT e
    obtain ⟨ys, h3, h4⟩ := (h _ _ (.inr ⟨rfl, rfl⟩)).seqT e'
    exact ⟨⟨xs, by cases d <;> exact h1, h2⟩, ⟨ys, by cases d' <;> exact h3, h4⟩⟩
  refine ⟨fun i H M h hi => ?_, fun H M h => ?_, fun i H M x H' z h dm hd y => ?_⟩
  · obtain ⟨⟨xs, h1, h2⟩, ys, h3, h4⟩ := at_ H M h
    have hl := h2.length
    have hl2 := h4.length
    rw [zipD_length] at hi
    exact ⟨xs, ys, xs[i]'(by omega), ys[i]'(by omega), h1, h3, List.getElem?_eq_getElem (by omega), List.getElem?_eq_getElem (by omega)⟩
  · obtain ⟨⟨xs, h1, h2⟩, ys, h3, h4⟩ := at_ H M h
    have hl := h2.length
    have hl2 := h4.length
    rw [zipD_length]
    exact ⟨xs, ys, h1, h3, by omega, by omega, by omega⟩
  · obtain ⟨⟨xs, h1, h2⟩, ys, h3, h4⟩ := at_ H M h
    obtain ⟨T, u, v, rfl, hT, rfl, hu, hv⟩ := y
    obtain ⟨d2, e1, e2⟩ := h2.get' (hu xs h1)
    obtain ⟨d3, e3, e4⟩ := h4.get' (hv ys h3)
    obtain ⟨d4, d5, e5, e6, rfl⟩ := zipD_get ds es i z hd
    rw [e5] at e1; cases e1
    rw [e6] at e3; cases e3
    have nT : ¬ M T := fun q => by obtain ⟨o, q⟩ := dm T q; rw [hT] at q; cases q
    refine ⟨.inr ⟨T, _, hT, rfl⟩, ?_⟩
    rw [Rep]
    exact ⟨T, _, rfl, .inl ⟨nT, .inl upd_same⟩, .cons (Rep.keep (keep_new hT) _ _ e2) (.cons (Rep.keep (keep_new hT) _ _ e4) .nil)⟩
theorem i_zip (b : Bool) {elts : List Expr} {kk : Nat} {tpos : Pos} (ha : SA X W [e1, e2] xs) (hm : X.mg "zip" = none) (hg : Gl X "zip" := by rfl) (hs : starEach [e1, e2] X.env = (false, eval e1 X.env) :: starEach [e2] X.env := by rfl)
    (hpl : (backTo pos (starEach [e2] X.env)).any (·.1) = false := by rfl) : SI X W (.Tuple elts kk tpos) (.Call (.Name "zip" p) [e1, e2] [] pos) (iZipX b xs) b :=
  ⟨fun M m σ H env ph r er R q => tWI_of (pi_zipS hg hm tWA_pa hs hpl) (by
  refine ha.bind r er q fun vs ph1 ws H1 fr r1 er1 rv q1 => ?_
  match vs, rv, q1 with
  | [v, w], ⟨v1, ws', z1, rv1, w1, ws2, z2, rv2, z3⟩, q1 =>
    subst z1
    have z3' : ws2 = [] := z3
    subst z2 z3'
    have q2 : Post X W M m σ H1 _ (match (v.wlk b).bind seqD, (w.wlk b).bind seqD with
      | some ds, some es => .ok (zipD ds es) ph1
      | _, _ => .bad) := q1
    cases hs1 : v.wlk b with
    | none => rw [hs1] at q2; exact q2.elim
    | some d =>
      cases hs2 : w.wlk b with
      | none =>
        rw [hs1, hs2] at q2
        cases hq : seqD d with
        | none => rw [show (some d).bind seqD = seqD d from rfl, hq] at q2; exact q2.elim
        | some _ => rw [show (some d).bind seqD = seqD d from rfl, hq] at q2; exact q2.elim
      | some d' =>
        rw [hs1, hs2, show (some d).bind seqD = seqD d from rfl, show (some d').bind seqD = seqD d' from rfl] at q2
        cases hq : seqD d with
        | none => rw [hq] at q2; exact q2.elim
        | some ds =>
          cases hq2 : seqD d' with
          | none => rw [hq, hq2] at q2; exact q2.elim
          | some es =>
            rw [hq, hq2] at q2
            obtain ⟨hh, hr⟩ := rv1.wlk r1 hs1
            obtain ⟨hh2, hr2⟩ := rv2.wlk r1 hs2
            obtain ⟨t, a, xs, ev, sq, _⟩ := hh.cr.seq hq
            subst ev
            obtain ⟨t2, a2, xs2, ev, sq', _⟩ := hh2.cr.seq hq2
            subst ev
            obtain ⟨ys, sq2, _⟩ := hh.cr.seqT hq
            obtain ⟨ys2, sq3, _⟩ := hh2.cr.seqT hq2
            refine ⟨isT d, isT d', a, a2, ys, ys2, rfl, by cases d <;> exact sq2, by cases d' <;> exact sq3, q2 (ItZ (isT d) (isT d') X.K a a2) (two (.ref a) (.ref a2) d d') H1 fr r1 (fun v' z z' => ?_) (fun hb v' z z' => ?_) (drv_zip hq hq2)⟩
            · rcases z' with ⟨rfl, rfl⟩ | ⟨rfl, rfl⟩
              · exact hh
              · exact hh2
            · rcases z' with ⟨rfl, rfl⟩ | ⟨rfl, rfl⟩
              · exact hr hb
              · exact hr2 hb
  | [], _, q1 => exact q1.elim
  | [_], _, q1 => exact q1.elim
  | _ :: _ :: _ :: _, _, q1 => exact q1.elim)⟩
/-- range -/
def rngD (lo : Int) : Nat → List D
  | 0 => []
  | n + 1 => .int lo :: rngD (lo + 1) n
theorem rngD_length : ∀ (n : Nat) (lo : Int), (rngD lo n).length = n
  | 0, _ => rfl
  | n + 1, lo => by simp [rngD, rngD_length n]
theorem rngD_get : ∀ (n : Nat) (lo : Int) (i : Nat) (d : D), (rngD lo n)[i]? = some d → d = .int (lo + i)
  | 0, _, _, _, h => by simp [rngD] at h
  | n + 1, lo, 0, d, h => by simp [rngD] at h; subst h; simp
  | n + 1, lo, i + 1, d, h => by
    simp only [rngD, List.getElem?_cons_succ] at h
    rw [rngD_get n (lo + 1) i d h]
    congr 1
    omega
theorem drv_range {K : PySem.W.Frag} {lo : Int} {n : Nat} : Drv K (Itr lo n) (rngD lo n) (fun _ _ => False) := by
  refine ⟨fun i H M h hi => ?_, fun H M h => ?_, fun i H M x H' d' h dm hd y => ?_⟩
  · rw [rngD_length] at hi; exact hi
  · rw [rngD_length]; exact Nat.le_refl n
  · obtain ⟨rfl, rfl⟩ := y
    rw [rngD_get n lo i d' hd]
    exact ⟨.inl rfl, by rw [Rep]⟩
def okR (i : Int) : Bool := decide (i.natAbs ≤ 1000000)
theorem okR_is {i : Int} (h : okR i = true) : -1000000 ≤ i ∧ i ≤ 1000000 := by
  have := of_decide_eq_true (p := i.natAbs ≤ 1000000) h
  omega
theorem okR_of {i : Int} (h : -100000 ≤ i) (h2 : i ≤ 100000) : okR i = true := decide_eq_true (p := i.natAbs ≤ 1000000) (by omega)
def rngE1 (vs : List Val) (ph : PH) : Res (List D) := match vs with
  | [.d (.int j)] => bif okR j then .ok (rngD 0 j.toNat) ph else .bad
  | _ => .bad
def rngE2 (vs : List Val) (ph : PH) : Res (List D) := match vs with
  | [.d (.int i), .d (.int j)] => bif okR i && okR j then .ok (rngD i (j - i).toNat) ph else .bad
  | _ => .bad
def iRng1X (xs : Ax) : Ix := fun env ph => (xs env ph).bind rngE1
def iRng2X (xs : Ax) : Ix := fun env ph => (xs env ph).bind rngE2
theorem rv_int {M m H0 H v i} (h : RV X.K M m H0 H v (.d (.int i))) : v = .int i := by rw [RV, Rep] at h; exact h
theorem i_range1 (b : Bool) {a : Expr} (ha : SA X W [a] xs) (hm : X.mg "range" = none) (hg : Gl X "range" := by rfl) (hs : starEach [a] X.env = [(false, eval a X.env)] := by rfl) : SI X W tg (.Call (.Name "range" p) [a] [] pos) (iRng1X xs) b :=
  ⟨fun M m σ H env ph r er R q => tWI_of (pi_range1 hg hm tWA_pa hs) (by
  refine ha.bind r er q fun vs ph1 ws H1 fr r1 er1 rv q1 => ?_
  unfold rngE1 at q1
  split at q1
  · rename_i j
    obtain ⟨w, ws', e1, rv1, e2⟩ := rv
    have e2' : ws' = [] := e2
    subst e1 e2'
    rw [cond_eq_ite] at q1
    split at q1
    · rename_i hb
      have hb := okR_is hb
      rw [rv_int rv1]
      exact ⟨j, rfl, by omega, by omega, q1 (Itr 0 j.toNat) (fun _ _ => False) H1 fr r1 (fun _ _ z => z.elim) (fun _ _ _ z => z.elim) drv_range⟩
    · exact q1.elim
  · exact q1.elim)⟩
theorem i_range2 (b : Bool) {a a' : Expr} (ha : SA X W [a, a'] xs) (hm : X.mg "range" = none) (hg : Gl X "range" := by rfl) (hs : starEach [a, a'] X.env = [(false, eval a X.env), (false, eval a' X.env)] := by rfl) (hs2 : starEach [a'] X.env = [(false, eval a' X.env)] := by rfl) : SI X W tg (.Call (.Name "range" p) [a, a'] [] pos) (iRng2X xs) b :=
  ⟨fun M m σ H env ph r er R q => tWI_of (pi_range2 hg hm tWA_pa hs hs2) (by
  refine ha.bind r er q fun vs ph1 ws H1 fr r1 er1 rv q1 => ?_
  unfold rngE2 at q1
  split at q1
  · rename_i i j
    obtain ⟨w, ws', e1, rv1, w2, ws2, e3, rv2, e2⟩ := rv
    have e2' : ws2 = [] := e2
    subst e1 e3 e2'
    rw [cond_eq_ite] at q1
    split at q1
    · rename_i hb
      rw [Bool.and_eq_true] at hb
      have hb1 := okR_is hb.1
      have hb2 := okR_is hb.2
      rw [rv_int rv1, rv_int rv2]
      exact ⟨i, j, rfl, ⟨by omega, by omega, by omega, by omega⟩, q1 (Itr i (j - i).toNat) (fun _ _ => False) H1 fr r1 (fun _ _ z => z.elim) (fun _ _ _ z => z.elim) drv_range⟩
    · exact q1.elim
  · exact q1.elim)⟩
/-- downward: range(a, b, -1) -/
def rngDn (hi : Int) : Nat → List D
  | 0 => []
  | n + 1 => .int hi :: rngDn (hi - 1) n
theorem rngDn_length : ∀ (n : Nat) (lo : Int), (rngDn lo n).length = n
  | 0, _ => rfl
  | n + 1, lo => by simp [rngDn, rngDn_length n]
theorem rngDn_get : ∀ (n : Nat) (lo : Int) (i : Nat) (d : D), (rngDn lo n)[i]? = some d → d = .int (lo - i)
  | 0, _, _, _, h => by simp [rngDn] at h
  | n + 1, lo, 0, d, h => by simp [rngDn] at h; subst h; simp
  | n + 1, lo, i + 1, d, h => by
    simp only [rngDn, List.getElem?_cons_succ] at h
    rw [rngDn_get n (lo - 1) i d h]
    congr 1
    omega
theorem drv_down {K : PySem.W.Frag} {lo : Int} {n : Nat} : Drv K (Itc lo (-1) n) (rngDn lo n) (fun _ _ => False) := by
  refine ⟨fun i H M h hi => ?_, fun H M h => ?_, fun i H M x H' d' h dm hd y => ?_⟩
  · rw [rngDn_length] at hi; exact hi
  · rw [rngDn_length]; exact Nat.le_refl n
  · obtain ⟨rfl, rfl⟩ := y
    rw [rngDn_get n lo i d' hd]
    refine ⟨.inl rfl, ?_⟩
    rw [Rep]
    congr 1
    omega
def rngE3 (vs : List Val) (ph : PH) : Res (List D) := match vs with
  | [.d (.int i), .d (.int j), .d (.int k)] => bif okR i && okR j && (k == -1) then .ok (rngDn i (i - j).toNat) ph else .bad
  | _ => .bad
def iRng3X (xs : Ax) : Ix := fun env ph => (xs env ph).bind rngE3
theorem i_range3 (bb : Bool) {a b c : Expr} (ha : SA X W [a, b, c] xs) (hi : ∀ R : TI, PI X tg (.Call (.Name "range" p) [a, b, c] [] pos) (iRng3 (tWA X [a, b, c])) := by intro _; first | exact pi_range3 (by rfl) (by assumption) tWA_pa | skip)
    : SI X W tg (.Call (.Name "range" p) [a, b, c] [] pos) (iRng3X xs) bb :=
  ⟨fun M m σ H env ph r er R q => tWI_of (hi (fun _ _ _ => True)) (by
  refine ha.bind r er q fun vs ph1 ws H1 fr r1 er1 rv q1 => ?_
  unfold rngE3 at q1
  split at q1
  · rename_i i j k
    obtain ⟨w, ws', e1, rv1, w2, ws2, e3, rv2, w3, ws3, e4, rv3, e2⟩ := rv
    have e2' : ws3 = [] := e2
    subst e1 e3 e4 e2'
    rw [cond_eq_ite] at q1
    split at q1
    · rename_i hb
      rw [Bool.and_eq_true, Bool.and_eq_true] at hb
      have hb1 := okR_is hb.1.1
      have hb2 := okR_is hb.1.2
      have hk : k = -1 := by simpa using hb.2
      subst hk
      rw [rv_int rv1, rv_int rv2, rv_int rv3]
      exact ⟨i, j, -1, _, rfl, RgC.neg (by omega) (by omega) (by omega) (by omega), q1 (Itc i (-1) (i - j).toNat) (fun _ _ => False) H1 fr r1 (fun _ _ z => z.elim) (fun _ _ _ z => z.elim) drv_down⟩
    · exact q1.elim
  · exact q1.elim)⟩
end

/-! ### for -/
def forL (g : Gx) (b : Sx) : List D → Sx
  | [], env, ph => .nx env ph
  | d :: ds, env, ph => match g d env with
    | some env1 => match b env1 ph with
      | .nx env2 ph2 => forL g b ds env2 ph2
      | .ct env2 ph2 => forL g b ds env2 ph2
      | .bk env2 ph2 => .nx env2 ph2
      | o => o
    | none => .bad
def sFor (g : Gx) (it : Ix) (b : Sx) : Sx := fun env ph => (it env ph).bindS env fun ds ph1 => forL g b ds env ph1
theorem StR.weakHd {K M0 H0 hd hd' M m σ H env ph} (s : StR K M0 H0 hd' M m σ H env ph) (h : ∀ v d, hd v d → hd' v d) : StR K M0 H0 hd M m σ H env ph :=
  ⟨s.rel, s.er, s.len, s.sub, s.mem, s.fr, s.own, s.sep, fun v d z => s.held v d (h v d z)⟩
theorem drop_cons {α : Type} {l : List α} {i : Nat} (h : i < l.length) : l.drop i = l[i] :: l.drop (i + 1) := List.drop_eq_getElem_cons h
theorem st_for {W : WX} {tg iter : Expr} {body : List Stmt} {it : Ix} {g : Gx} {sl : List Nat} {b : Sx} {pos : Pos} (hp : PassesOwn (model X.prog X.w) X.A X.env X.xe) (hc : X.calm = true) (hi : SI X W tg iter it true) (hg : SG X tg g sl) (hb : SB X W body b)
    (hs : ∀ x, foldedSetIterable iter X.env x = pure x := by intro _; rfl) : SS X W (.For tg iter body [] pos) (sFor g it b) := ⟨fun M0 H0 hd M m σ H env ph s D q => tWS_of (ps_for hp hc tWI_pi tWG_pg tWB_ps hs) (by
  have q' : PostS X W M0 H0 hd m D ((it env ph).bindS env fun ds ph1 => forL g b ds env ph1) := q
  refine hi.run M m σ H env ph s.rel s.er _ ?_
  cases hit : it env ph with
  | bad => rw [hit] at q'; exact q'
  | exc c fs ph1 => rw [hit] at q'; exact fun cls d H1 fr r1 ex => q' M σ H1 cls d (s.keep fr r1) ex
  | ok ds ph1 =>
    rw [hit] at q'
    intro J hdI H1 fr r1 hh hrep dr
    have s1 := s.keep fr r1
    have s2 : StR X.K M0 H0 (fun v d => hd v d ∨ hdI v d) M m σ H1 env ph1 := ⟨s1.rel, s1.er, s1.len, s1.sub, s1.mem, s1.fr, s1.own, s1.sep, fun v d z => z.elim (s1.held v d) (hrep rfl v d)⟩
    have crs : ∀ {M' σ' H' env' ph'}, StR X.K M0 H0 (fun v d => hd v d ∨ hdI v d) M' m σ' H' env' ph' → ∀ v d, hdI v d → CR X.K M' H' d v := fun s' v d z => (s'.held v d (.inr z)).cr
    have w : Walk J ds.length (fun H => ∃ M, (∀ a, M a → ∃ o, H a = some o) ∧ ∀ v d, hdI v d → CR X.K M H d v) (fun i H x H' => J.yld i H x H') :=
      ⟨fun i H hi ⟨M, _, h⟩ => dr.goes i H M h hi, fun H ⟨M, _, h⟩ => dr.stops H M h, fun i H x H' _ _ y => y⟩
    refine for_it w (fun i σ H => ∃ M env ph, StR X.K M0 H0 (fun v d => hd v d ∨ hdI v d) M m σ H env ph ∧ PostS X W M0 H0 hd m D (forL g b (ds.drop i) env ph)) ⟨M, env, ph1, s2, by simpa using q'⟩
      (fun i σ H _ ⟨M, env, ph, s, _⟩ => ⟨M, s.rel.dom, crs s⟩) (fun i x σ1 H2 H3 hi ⟨M3, env3, ph3, s3, q3⟩ y => ?_) (fun σ1 H2 ⟨M3, env3, ph3, s3, q3⟩ => ?_)
    · rw [drop_cons hi] at q3
      obtain ⟨gr, rx⟩ := dr.yields i H2 M3 x H3 ds[i] (crs s3) s3.rel.dom (List.getElem?_eq_getElem hi) y
      have s4 := s3.keep gr.frame (gr.rel s3.rel)
      have q4 : PostS X W M0 H0 hd m D (match g ds[i] env3 with
        | some env1 => match b env1 ph3 with
          | .nx env2 ph2 => forL g b (ds.drop (i + 1)) env2 ph2
          | .ct env2 ph2 => forL g b (ds.drop (i + 1)) env2 ph2
          | .bk env2 ph2 => .nx env2 ph2
          | o => o
        | none => .bad) := q3
      cases hge : g ds[i] env3 with
      | none => rw [hge] at q4; exact q4.elim
      | some env4 =>
        rw [hge] at q4
        refine hg.run M3 m σ1 H3 env3 ph3 ds[i] x env4 s4.rel s4.er s4.len rx hge _ fun σ2 H4 f4 r4 er2 ch => ?_
        have s5 := (s4.keep f4 r4).chg ch er2
        refine hb.run M0 H0 _ M3 m σ2 H4 env4 ph3 s5 _ ?_
        have q5 : PostS X W M0 H0 hd m D (match b env4 ph3 with
          | .nx env2 ph2 => forL g b (ds.drop (i + 1)) env2 ph2
          | .ct env2 ph2 => forL g b (ds.drop (i + 1)) env2 ph2
          | .bk env2 ph2 => .nx env2 ph2
          | o => o) := q4
        cases hbo : b env4 ph3 with
        | nx env5 ph5 => rw [hbo] at q5; exact fun M' σ' H' s' => ⟨M', env5, ph5, s', q5⟩
        | ct env5 ph5 => rw [hbo] at q5; exact fun M' σ' H' s' => ⟨M', env5, ph5, s', q5⟩
        | bk env5 ph5 => rw [hbo] at q5; exact fun M' σ' H' s' => q5 M' σ' H' (s'.weakHd fun _ _ z => .inl z)
        | ret v ph5 => rw [hbo] at q5; exact q5
        | exc c fs env5 ph5 => rw [hbo] at q5; exact fun M' σ' H' cls d s' ex => q5 M' σ' H' cls d (s'.weakHd fun _ _ z => .inl z) ex
        | bad => rw [hbo] at q5; exact q5
    · rw [List.drop_length] at q3
      exact q3 M3 σ1 H2 (s3.weakHd fun _ _ z => .inl z))⟩

/-! ### comprehensions -/
def W0 : WX := fun _ _ _ _ => False
def wipeE (env : Env) : List Nat → Env
  | [] => env
  | v :: vs => (wipeE env vs).set v none
theorem wipeE_length (env : Env) : ∀ vs : List Nat, (wipeE env vs).length = env.length
  | [] => rfl
  | v :: vs => by unfold wipeE; rw [List.length_set, wipeE_length env vs]
theorem wipeE_some {env : Env} {i : Nat} {x : Val} : ∀ {vs : List Nat}, (wipeE env vs)[i]? = some (some x) → env[i]? = some (some x) ∧ i ∉ vs
  | [], h => ⟨h, by simp⟩
  | v :: vs, h => by
    unfold wipeE at h
    by_cases hi : v = i
    · subst hi
      by_cases hv : v < (wipeE env vs).length
      · rw [List.getElem?_set_self hv] at h; cases h
      · rw [List.getElem?_eq_none (by simpa using hv)] at h; cases h
    · rw [List.getElem?_set_ne hi] at h
      obtain ⟨h1, h2⟩ := wipeE_some h
      exact ⟨h1, by simp only [List.mem_cons, not_or]; exact ⟨fun e => hi e.symm, h2⟩⟩
theorem wipe_out' {σ : L2.St} {i : Nat} : ∀ {vs : List Nat}, i ∉ vs → (wipe σ vs)[i]? = σ[i]?
  | [], _ => rfl
  | v :: vs, h => by
    unfold wipe
    simp only [List.mem_cons, not_or] at h
    rw [List.getElem?_set_ne (fun e => h.1 e.symm)]
    exact wipe_out' h.2
theorem wipe_in {σ : L2.St} {i : Nat} : ∀ {vs : List Nat}, i ∈ vs → i < σ.length → (wipe σ vs)[i]? = some none
  | v :: vs, h, hl => by
    unfold wipe
    by_cases hi : v = i
    · subst hi
      exact List.getElem?_set_self (by rw [wipe_length]; exact hl)
    · rw [List.getElem?_set_ne hi]
      exact wipe_in ((List.mem_cons.mp h).resolve_left fun e => hi e.symm) hl
theorem wipe_env {K M m σ H env} (er : EnvR K M m σ H env) (vs : List Nat) : EnvR K M m (wipe σ vs) H (wipeE env vs) := ⟨by rw [wipeE_length, wipe_length, er.1], fun i x e => by
  obtain ⟨h1, h2⟩ := wipeE_some e
  obtain ⟨v, q1, q2⟩ := er.2 i x h1
  exact ⟨v, by rw [wipe_out' h2]; exact q1, q2⟩⟩
theorem wipe_chg {sl vs : List Nat} {σ σ' : L2.St} {env env' : Env} (c : Chg sl σ σ' env env') (h : ∀ j ∈ sl, j ∈ vs) : wipe σ' vs = wipe σ vs := by
  apply List.ext_getElem?
  intro i
  by_cases hv : i ∈ vs
  · by_cases hl : i < σ.length
    · rw [wipe_in hv hl, wipe_in hv (by rw [c.lenS]; exact hl)]
    · rw [List.getElem?_eq_none (by rw [wipe_length, c.lenS]; omega), List.getElem?_eq_none (by rw [wipe_length]; omega)]
  · rw [wipe_out' hv, wipe_out' hv, c.outS i fun z => hv (h i z)]
theorem wipe_wipe {σ : L2.St} (vs : List Nat) : wipe (wipe σ vs) vs = wipe σ vs := by
  apply List.ext_getElem?
  intro i
  by_cases hv : i ∈ vs
  · by_cases hl : i < σ.length
    · rw [wipe_in hv (by rw [wipe_length]; exact hl), wipe_in hv hl]
    · rw [List.getElem?_eq_none (by rw [wipe_length, wipe_length]; omega), List.getElem?_eq_none (by rw [wipe_length]; omega)]
  · rw [wipe_out' hv]
def tYesX : Tx := fun _ ph => .ok true ph
structure STs (X : Cx) (W : WX) (ifs : List Expr) (x : Tx) : Prop where
  run : ∀ M m σ H env ph, Rel X.K M m H ph → EnvR X.K M m σ H env → ∀ Q, Post X W M m σ H (GT X M m H Q) (x env ph) → ∃ t, PTs X ifs t ∧ t σ H Q
theorem ts_nil {W : WX} : STs X W [] tYesX := ⟨fun M m σ H env ph r er Q q => ⟨tYes, pts_nil, q H Frame.refl r⟩⟩
theorem ts_one {W : WX} {c : Expr} {t : Tx} (h : ST X W c t) : STs X W [c] t := ⟨fun M m σ H env ph r er Q q => ⟨_, pts_one tWT_pt, h.run M m σ H env ph r er Q q⟩⟩
def tWTs (X : Cx) (ifs : List Expr) : TT := fun σ H Q => ∀ pins s, Inv X pins σ H s → wpAny (model X.prog X.w) X.A (forIn ifs true fun c r => if r = true then do let ok ← isTrue c X.env (eval c X.env); pure (ForInStep.yield ok) else pure (ForInStep.yield r)) (TP X pins σ Q) X.xe s
theorem tWTs_pts {ifs : List Expr} : PTs X ifs (tWTs X ifs) := ⟨fun pins s σ H Q I h => h pins s I⟩
theorem tWTs_of {ifs : List Expr} {t : TT} {σ : L2.St} {H : Hp} {Q : Bool → Hp → Prop} (h : PTs X ifs t) (q : t σ H Q) : tWTs X ifs σ H Q := fun pins s I => h.run pins s σ H Q I q
def compL (g : Gx) (t : Tx) (x : Ex) (env : Env) : List D → List D → PH → Res (List D)
  | [], acc, ph => .ok acc ph
  | d :: ds, acc, ph => match g d env with
    | some env1 => match t env1 ph with
      | .ok true ph1 => match x env1 ph1 with
        | .ok v ph2 => match v.dat with
          | some y => if acc.length < lim then compL g t x env ds (acc ++ [y]) ph2 else .bad
          | none => .bad
        | _ => .bad
      | .ok false ph1 => compL g t x env ds acc ph1
      | _ => .bad
    | none => .bad
def eComp (own : List Nat) (g : Gx) (it : Ix) (t : Tx) (x : Ex) : Ex := fun env ph => (it env ph).bind fun ds ph1 => (compL g t x (wipeE env own) ds [] ph1).bind fun out ph2 => .ok (.own (.lst out)) ph2
def gBlk (X : Cx) (scope : Scope) (tg : Expr) : TG := fun v σ H Q => ∀ (s : Shared) (H' : Hp) (C : Addr) (cl : List (Str × Addr)) (fp : List Addr), tWG (X.blk s H' scope (compEnvC scope cl C X.env) fp) tg v σ H Q
def tBlk (X : Cx) (scope : Scope) (ifs : List Expr) : TT := fun σ H Q => ∀ (s : Shared) (H' : Hp) (C : Addr) (cl : List (Str × Addr)) (fp : List Addr), tWTs (X.blk s H' scope (compEnvC scope cl C X.env) fp) ifs σ H Q
def eBlk (X : Cx) (scope : Scope) (elt : Expr) : TE := fun σ H Q => ∀ (s : Shared) (H' : Hp) (C : Addr) (cl : List (Str × Addr)) (fp : List Addr), tW (X.blk s H' scope (compEnvC scope cl C X.env) fp) elt σ H Q
theorem Post.exc_bad {W : WX} {M m σ H} {α : Type} {G : α → PH → Prop} {ph : PH} (q : Post X W M m σ H G (.bad : Res α)) {P : Prop} : P := False.elim q
theorem comp_core {W : WX} {elt tg iter : Expr} {ifs : List Expr} {scope : Scope} {own : List (Str × Nat)} {it : Ix} {g : Gx} {sl : List Nat} {t : Tx} {x : Ex} (hi : SI X W tg iter it false) (hsl : ∀ j ∈ sl, j ∈ own.map (·.2))
    (hg : ∀ (s : Shared) (H : Hp) (C : Addr) (cl : List (Str × Addr)) (fp : List Addr), SG (X.blk s H scope (compEnvC scope cl C X.env) fp) tg g sl) (ht : ∀ (s : Shared) (H : Hp) (C : Addr) (cl : List (Str × Addr)) (fp : List Addr), STs (X.blk s H scope (compEnvC scope cl C X.env) fp) W0 ifs t)
    (he : ∀ (s : Shared) (H : Hp) (C : Addr) (cl : List (Str × Addr)) (fp : List Addr), SE (X.blk s H scope (compEnvC scope cl C X.env) fp) W0 elt x) {M m σ H env ph} {Q : VK} (r : Rel X.K M m H ph) (er : EnvR X.K M m σ H env)
    (q : Post X W M m σ H (GE X M m H Q) (eComp (own.map (·.2)) g it t x env ph)) :
    tLc (tWI X tg iter) (gBlk X scope tg) (tBlk X scope ifs) (eBlk X scope elt) (own.map (·.2)) σ H Q := by
  refine hi.run M m σ H env ph r er _ ?_
  have q' : Post X W M m σ H (GE X M m H Q) ((it env ph).bind fun ds ph1 => (compL g t x (wipeE env (own.map (·.2))) ds [] ph1).bind fun out ph2 => .ok (.own (.lst out)) ph2) := q
  cases hit : it env ph with
  | bad => rw [hit] at q'; exact q'
  | exc c fs ph1 => rw [hit] at q'; exact q'
  | ok ds ph1 =>
    rw [hit, Res.bind_ok] at q'
    intro J hdI H1 fr r1 hh _ dr Dd hD
    have er1 := er.keep r fr
    have w : Walk J ds.length (fun H => ∃ M, (∀ a, M a → ∃ o, H a = some o) ∧ ∀ v d, hdI v d → CR X.K M H d v) (fun i H x H' => J.yld i H x H') :=
      ⟨fun i H hi ⟨M, _, h⟩ => dr.goes i H M h hi, fun H ⟨M, _, h⟩ => dr.stops H M h, fun i H x H' _ _ y => y⟩
    have Dm : Dd ∉ m := fun z => r1.notM hD (r1.sub Dd z)
    refine lc_it w (fun i Hc => ∃ acc accV phc, Frame m H1 Hc ∧ Rel X.K (MAdd M Dd) m Hc phc ∧ Hc Dd = some (.lst accV) ∧ Reps X.K (MAdd M Dd) Hc acc accV ∧ (∀ v d, hdI v d → Held X.K (MAdd M Dd) m Hc v d) ∧ EnvR X.K (MAdd M Dd) m σ Hc env ∧
      Post X W M m σ H (GE X M m H Q) ((compL g t x (wipeE env (own.map (·.2))) (ds.drop i) acc phc).bind fun out ph2 => .ok (.own (.lst out)) ph2))
      ⟨[], [], ph1, Frame.new hD, r1.newM hD, upd_same, Reps.nil, fun v d z => ?_, er1.newM hD, by simpa using q'⟩
      (fun i Hc _ ⟨acc, accV, phc, f, rc, _, _, hc, _, _⟩ => ⟨MAdd M Dd, rc.dom, fun v d z => (hc v d z).cr⟩) (fun i xv H2 H2' hi ⟨acc, accV, phc, f, rc, hDc, ra, hc, erc, qc⟩ y => ?_) (fun Hc ⟨acc, accV, phc, f, rc, hDc, ra, hc, erc, qc⟩ => ?_)
    · rcases hh v d z with h | ⟨a, e, n, c⟩
      · exact .inl (Rep.keep (keep_new hD) _ _ (Rep.fresh hD _ _ h))
      · exact .inr ⟨a, e, n, (c.fresh hD).keep (keep_new hD) fun u z => by rw [upd_ne (ne_of_none z hD)]; exact z⟩
    · rw [drop_cons hi] at qc
      obtain ⟨gr, rx⟩ := dr.yields i H2 (MAdd M Dd) xv H2' ds[i] (fun v d z => (hc v d z).cr) rc.dom (List.getElem?_eq_getElem hi) y
      have r3' := gr.rel rc
      have f3' : Frame m H2 H2' := gr.frame
      rw [compL] at qc
      intro s0 H0' C cl fp
      cases hge : g ds[i] (wipeE env (own.map (·.2))) with
      | none => rw [hge] at qc; exact False.elim qc
      | some env1 =>
        rw [hge] at qc
        refine (hg s0 H0' C cl fp).run (MAdd M Dd) m (wipe σ (own.map (·.2))) H2' (wipeE env (own.map (·.2))) phc ds[i] xv env1 r3' (wipe_env (erc.keep rc f3') _) (by rw [wipeE_length, wipe_length, er.1]) rx hge _ ?_
        intro σ2 H3 f3g r3 er2 ch
        have f3 := f3'.trans f3g
        refine ⟨?_, ?_⟩
        · rw [wipe_chg ch hsl, wipe_wipe]
        · intro s0 H0' C cl fp
          have key := (ht s0 H0' C cl fp).run (MAdd M Dd) m σ2 H3 env1 phc r3 er2 (fun b H4 => if b = true then eBlk X scope elt σ2 H4 fun y H5 => ∃ acc', H5 Dd = some (.lst acc') ∧ acc'.length < sizeLine ∧ ∃ acc accV phc, Frame m H1 (upd H5 Dd (.lst (acc' ++ [y]))) ∧ Rel X.K (MAdd M Dd) m (upd H5 Dd (.lst (acc' ++ [y]))) phc ∧ (upd H5 Dd (.lst (acc' ++ [y]))) Dd = some (.lst accV) ∧ Reps X.K (MAdd M Dd) (upd H5 Dd (.lst (acc' ++ [y]))) acc accV ∧ (∀ v d, hdI v d → Held X.K (MAdd M Dd) m (upd H5 Dd (.lst (acc' ++ [y]))) v d) ∧ EnvR X.K (MAdd M Dd) m σ (upd H5 Dd (.lst (acc' ++ [y]))) env ∧
            Post X W M m σ H (GE X M m H Q) ((compL g t x (wipeE env (own.map (·.2))) (ds.drop (i + 1)) acc phc).bind fun out ph2 => .ok (.own (.lst out)) ph2)
            else ∃ acc accV phc, Frame m H1 H4 ∧ Rel X.K (MAdd M Dd) m H4 phc ∧ H4 Dd = some (.lst accV) ∧ Reps X.K (MAdd M Dd) H4 acc accV ∧ (∀ v d, hdI v d → Held X.K (MAdd M Dd) m H4 v d) ∧ EnvR X.K (MAdd M Dd) m σ H4 env ∧
            Post X W M m σ H (GE X M m H Q) ((compL g t x (wipeE env (own.map (·.2))) (ds.drop (i + 1)) acc phc).bind fun out ph2 => .ok (.own (.lst out)) ph2))
          refine Exists.elim (key ?_) fun tt pq => tWTs_of pq.1 pq.2
          · have q3 : Post X W M m σ H (GE X M m H Q) ((match t env1 phc with
              | .ok true ph1 => match x env1 ph1 with
                | .ok v ph2 => match v.dat with
                  | some y => if acc.length < lim then compL g t x (wipeE env (own.map (·.2))) (ds.drop (i + 1)) (acc ++ [y]) ph2 else .bad
                  | none => .bad
                | _ => .bad
              | .ok false ph1 => compL g t x (wipeE env (own.map (·.2))) (ds.drop (i + 1)) acc ph1
              | _ => .bad : Res (List D)).bind fun out ph2 => .ok (.own (.lst out)) ph2) := qc
            cases hte : t env1 phc with
            | bad => rw [hte] at q3; exact False.elim q3
            | exc c fs ph4 => rw [hte] at q3; exact False.elim q3
            | ok b ph4 =>
              rw [hte] at q3
              intro H4 f4 r4
              have f4 : Frame m H3 H4 := f4
              have r4 : Rel X.K (MAdd M Dd) m H4 ph4 := r4
              have fall := f3.trans f4
              have er4 := erc.keep rc fall
              have hc4 : ∀ v d, hdI v d → Held X.K (MAdd M Dd) m H4 v d := fun v d z => (hc v d z).keep rc fall
              have hD4 : H4 Dd = some (.lst accV) := fall Dd _ hDc Dm
              have ra4 := Reps.keep (fall.keep rc) _ _ ra
              cases b with
              | false => exact ⟨acc, accV, ph4, f.trans fall, r4, hD4, ra4, hc4, er4, q3⟩
              | true =>
                rw [if_pos rfl]
                intro s0 H0' C cl fp
                refine (he s0 H0' C cl fp).run (MAdd M Dd) m σ2 H4 env1 ph4 r4 (er2.keep r3 f4) _ ?_
                have q4 : Post X W M m σ H (GE X M m H Q) ((match x env1 ph4 with
                  | .ok v ph2 => match v.dat with
                    | some y => if acc.length < lim then compL g t x (wipeE env (own.map (·.2))) (ds.drop (i + 1)) (acc ++ [y]) ph2 else .bad
                    | none => .bad
                  | _ => .bad : Res (List D)).bind fun out ph2 => .ok (.own (.lst out)) ph2) := q3
                cases hxe : x env1 ph4 with
                | bad => rw [hxe] at q4; exact False.elim q4
                | exc c fs ph5 => rw [hxe] at q4; exact False.elim q4
                | ok v ph5 =>
                  rw [hxe] at q4
                  intro yv H5 f5 r5 rv5 _
                  have f5 : Frame m H4 H5 := f5
                  have r5 : Rel X.K (MAdd M Dd) m H5 ph5 := r5
                  have rv5 : RV X.K (MAdd M Dd) m H4 H5 yv v := rv5
                  have q5 : Post X W M m σ H (GE X M m H Q) ((match v.dat with
                    | some y => if acc.length < lim then compL g t x (wipeE env (own.map (·.2))) (ds.drop (i + 1)) (acc ++ [y]) ph5 else .bad
                    | none => .bad : Res (List D)).bind fun out ph2 => .ok (.own (.lst out)) ph2) := q4
                  cases hda : v.dat with
                  | none => rw [hda] at q5; exact False.elim q5
                  | some y =>
                    rw [hda] at q5
                    have ry := rv5.dat hda
                    have hD5 : H5 Dd = some (.lst accV) := f5 Dd _ hD4 Dm
                    have ra5 := Reps.keep (f5.keep r4) _ _ ra4
                    have q6 : Post X W M m σ H (GE X M m H Q) ((if acc.length < lim then compL g t x (wipeE env (own.map (·.2))) (ds.drop (i + 1)) (acc ++ [y]) ph5 else .bad : Res (List D)).bind fun out ph2 => .ok (.own (.lst out)) ph2) := q5
                    split at q6
                    · rename_i hlen
                      have kk : KeepP (MAdd M Dd) H5 (upd H5 Dd (.lst (accV ++ [yv]))) := fun b o hb n => by rw [upd_ne (fun e => n (.inr e))]; exact hb
                      have ka : ∀ b o, b ≠ Dd → H5 b = some o → upd H5 Dd (.lst (accV ++ [yv])) b = some o := fun b o hb h => by rw [upd_ne hb]; exact h
                      have er5 := er4.keep r4 f5
                      have cka : ∀ {b d}, b ≠ Dd → Cont X.K (MAdd M Dd) H5 b d → Cont X.K (MAdd M Dd) (upd H5 Dd (.lst (accV ++ [yv]))) b d := fun {b d} hb c => c.keep kk fun o z => ka b o hb z
                      refine ⟨accV, hD5, ?_, acc ++ [y], accV ++ [yv], ph5, ?_, ?_, upd_same, ?_, fun v d z => ?_, ?_, q6⟩
                      · rw [ra5.length]; exact lim_lt (Nat.le_of_lt hlen)
                      · intro b o hb hm
                        have h2 := f.trans (fall.trans f5) b o hb hm
                        rw [upd_ne (ne_of_none hb hD)]; exact h2
                      · refine ⟨r5.len, r5.nd, r5.sub, fun b z => ?_, fun n b d e1 e2 => cka (fun e => Dm (e ▸ List.mem_of_getElem? e1)) (r5.cont n b d e1 e2)⟩
                        by_cases hb : b = Dd
                        · subst hb; exact ⟨_, upd_same⟩
                        · obtain ⟨o, e⟩ := r5.dom b z
                          exact ⟨o, ka b o hb e⟩
                      · exact Reps.append (Reps.keep kk _ _ ra5) (.cons (Rep.keep kk _ _ ry) .nil)
                      · rcases (hc4 v d z).keep r4 f5 with h | ⟨a, e, n, c⟩
                        · exact .inl (Rep.keep kk _ _ h)
                        · by_cases ha : a = Dd
                          · subst ha
                            -- what is walked was there ahead of the new list
                            rcases hh v d z with h0 | ⟨a0, e0, n0, c0⟩
                            · have h6 : Rep X.K (MAdd M a) H1 d v := Rep.fresh hD _ _ h0
                              exact .inl (Rep.keep (fun b o hb nn => by
                                rw [upd_ne (ne_of_none hb hD)]
                                exact f.trans (fall.trans f5) b o hb fun q => nn (.inl (r.sub b q))) _ _ h6)
                            · subst e0
                              cases e
                              obtain ⟨o, ho⟩ := c0.some
                              rw [hD] at ho; cases ho
                          · exact .inr ⟨a, e, n, cka ha c⟩
                      · refine ⟨er5.1, fun j z ez => ?_⟩
                        obtain ⟨v', h1, h2⟩ := er5.2 j z ez
                        refine ⟨v', h1, ?_⟩
                        cases z with
                        | d z => exact Rep.keep kk _ _ h2
                        | own z =>
                          obtain ⟨a, e, ma, am, c⟩ := h2
                          refine ⟨a, e, ma, am, cka (fun ea => ?_) c⟩
                          subst ea
                          obtain ⟨v0, g1, a0, g2, g3, _⟩ := er1.2 j _ ez
                          rw [h1] at g1
                          have e' : v' = v0 := by simpa using g1
                          subst e'
                          rw [e] at g2
                          cases g2
                          exact r1.notM hD g3
                        | bor z => exact h2.elim
                        | ref n => exact h2
                    · exact False.elim q6
    · rw [List.drop_length] at qc
      have k0 : ∀ b, M b → MAdd M Dd b := fun b z => .inl z
      refine qc (.ref Dd) Hc (fr.trans f) (rc.anti k0 r.sub) ⟨Dd, rfl, fr.back r1 hD, r1.notM hD, accV, hDc, Reps.anti k0 _ _ ra⟩ fun d e a ea => ?_
      cases e; cases ea
      exact ⟨rc, accV, hDc, ra⟩
section
variable {W : WX} {elt tg iter : Expr} {ifs : List Expr} {scope : Scope} {own : List (Str × Nat)} {it : Ix} {g : Gx} {sl : List Nat} {t : Tx} {x : Ex} {pos spos py : Pos}
theorem gBlk_pg (s : Shared) (H : Hp) (C : Addr) (cl : List (Str × Addr)) (fp : List Addr) : PG (X.blk s H scope (compEnvC scope cl C X.env) fp) tg (gBlk X scope tg) := ⟨fun pins s0 σ H0 v u Q I r h => h s H C cl fp pins s0 u I r⟩
theorem tBlk_pt (s : Shared) (H : Hp) (C : Addr) (cl : List (Str × Addr)) (fp : List Addr) : PTs (X.blk s H scope (compEnvC scope cl C X.env) fp) ifs (tBlk X scope ifs) := ⟨fun pins s0 σ H0 Q I h => h s H C cl fp pins s0 I⟩
theorem eBlk_pe (s : Shared) (H : Hp) (C : Addr) (cl : List (Str × Addr)) (fp : List Addr) : PE (X.blk s H scope (compEnvC scope cl C X.env) fp) elt (eBlk X scope elt) := ⟨fun pins s0 σ H0 Q I h => h s H C cl fp pins s0 I⟩
theorem s_comp (own : List (Str × Nat)) (hc : X.calm = true) (hN : X.N.Nodup) (ok : BlkOk X.N X.env.scope scope own) (hi : SI X W tg iter it false) (hsl : ∀ j ∈ sl, j ∈ own.map (·.2))
    (hg : ∀ (s : Shared) (H : Hp) (C : Addr) (cl : List (Str × Addr)) (fp : List Addr), SG (X.blk s H scope (compEnvC scope cl C X.env) fp) tg g sl) (ht : ∀ (s : Shared) (H : Hp) (C : Addr) (cl : List (Str × Addr)) (fp : List Addr), STs (X.blk s H scope (compEnvC scope cl C X.env) fp) W0 ifs t)
    (he : ∀ (s : Shared) (H : Hp) (C : Addr) (cl : List (Str × Addr)) (fp : List Addr), SE (X.blk s H scope (compEnvC scope cl C X.env) fp) W0 elt x) (hs : ∀ x, foldedSetIterable iter X.env x = pure x := by intro _; rfl) :
    SE X W (.ListComp elt [⟨tg, iter, ifs, 0⟩] scope pos) (eComp (own.map (·.2)) g it t x) :=
  ⟨fun M m σ H env ph r er Q q => tW_of (pe_lc hc hN tWI_pi ok gBlk_pg tBlk_pt eBlk_pe hs) (comp_core hi hsl hg ht he r er q)⟩
/-- name = [..] on one line: as data, as a list of the name's own -/
theorem st_setLc (own : List (Str × Nat)) {i : Nat} {y : Str} (hc : X.calm = true) (hN : X.N.Nodup) (ok : BlkOk X.N X.env.scope scope own) (hy : X.N[i]? = some y) (hyl : X.env.scope.names.lookup y = some .local)
    (hsw : swapsWith (.ListComp elt [⟨tg, iter, ifs, 0⟩] scope pos) (some (.Name y py)) spos.line X.env = pure true) (hi : SI X W tg iter it false) (hsl : ∀ j ∈ sl, j ∈ own.map (·.2))
    (hg : ∀ (s : Shared) (H : Hp) (C : Addr) (cl : List (Str × Addr)) (fp : List Addr), SG (X.blk s H scope (compEnvC scope cl C X.env) fp) tg g sl) (ht : ∀ (s : Shared) (H : Hp) (C : Addr) (cl : List (Str × Addr)) (fp : List Addr), STs (X.blk s H scope (compEnvC scope cl C X.env) fp) W0 ifs t)
    (he : ∀ (s : Shared) (H : Hp) (C : Addr) (cl : List (Str × Addr)) (fp : List Addr), SE (X.blk s H scope (compEnvC scope cl C X.env) fp) W0 elt x) (hs : ∀ x, foldedSetIterable iter X.env x = pure x := by intro _; rfl) :
    SS X W (.Assign [.Name y py] (.ListComp elt [⟨tg, iter, ifs, 0⟩] scope pos) spos) (sSet i (eComp (own.map (·.2)) g it t x)) :=
  ⟨fun M0 H0 hd M m σ H env ph s D q => tWS_of (ps_setLc hc hN hy hyl hsw tWI_pi ok gBlk_pg tBlk_pt eBlk_pe hs) (by
    have q' : PostS X W M0 H0 hd m D ((eComp (own.map (·.2)) g it t x env ph).bindS env fun v ph1 => match v.dat with
      | some d => .nx (env.set i (some (.d d))) ph1
      | none => .bad) := q
    refine comp_core (Q := fun x H1 => gName i x σ H1 D.nx) hi hsl hg ht he s.rel s.er ?_
    cases hx : eComp (own.map (·.2)) g it t x env ph with
    | bad => rw [hx] at q'; exact q'
    | exc c fs ph1 => rw [hx] at q'; exact fun cls d H1 fr r1 ex => q' M σ H1 cls d (s.keep fr r1) ex
    | ok v ph1 =>
      rw [hx] at q'
      intro w H1 fr r1 rv ro
      have q2 : PostS X W M0 H0 hd m D (match v.dat with
        | some d => .nx (env.set i (some (.d d))) ph1
        | none => .bad) := q'
      cases hda : v.dat with
      | none => rw [hda] at q2; exact q2.elim
      | some d => rw [hda] at q2; exact q2 M _ H1 ((s.keep fr r1).setD (rv.dat hda)))⟩
theorem st_ownLc (own : List (Str × Nat)) {i : Nat} {y : Str} (hc : X.calm = true) (hN : X.N.Nodup) (ok : BlkOk X.N X.env.scope scope own) (hy : X.N[i]? = some y) (hyl : X.env.scope.names.lookup y = some .local)
    (hsw : swapsWith (.ListComp elt [⟨tg, iter, ifs, 0⟩] scope pos) (some (.Name y py)) spos.line X.env = pure true) (hi : SI X W tg iter it false) (hsl : ∀ j ∈ sl, j ∈ own.map (·.2))
    (hg : ∀ (s : Shared) (H : Hp) (C : Addr) (cl : List (Str × Addr)) (fp : List Addr), SG (X.blk s H scope (compEnvC scope cl C X.env) fp) tg g sl) (ht : ∀ (s : Shared) (H : Hp) (C : Addr) (cl : List (Str × Addr)) (fp : List Addr), STs (X.blk s H scope (compEnvC scope cl C X.env) fp) W0 ifs t)
    (he : ∀ (s : Shared) (H : Hp) (C : Addr) (cl : List (Str × Addr)) (fp : List Addr), SE (X.blk s H scope (compEnvC scope cl C X.env) fp) W0 elt x) (hs : ∀ x, foldedSetIterable iter X.env x = pure x := by intro _; rfl) :
    SS X W (.Assign [.Name y py] (.ListComp elt [⟨tg, iter, ifs, 0⟩] scope pos) spos) (sOwn i (eComp (own.map (·.2)) g it t x)) :=
  ⟨fun M0 H0 hd M m σ H env ph s D q => tWS_of (ps_setLc hc hN hy hyl hsw tWI_pi ok gBlk_pg tBlk_pt eBlk_pe hs) (by
    have q' : PostS X W M0 H0 hd m D ((eComp (own.map (·.2)) g it t x env ph).bindS env fun v ph1 => match v with
      | .own d => .nx (env.set i (some (.own d))) ph1
      | _ => .bad) := q
    refine comp_core (Q := fun x H1 => gName i x σ H1 D.nx) hi hsl hg ht he s.rel s.er ?_
    cases hx : eComp (own.map (·.2)) g it t x env ph with
    | bad => rw [hx] at q'; exact q'
    | exc c fs ph1 => rw [hx] at q'; exact fun cls d H1 fr r1 ex => q' M σ H1 cls d (s.keep fr r1) ex
    | ok v ph1 =>
      rw [hx] at q'
      intro w H1 fr r1 rv ro
      cases v with
      | own d =>
        obtain ⟨a, rfl, h1, h2, h3⟩ := rv
        obtain ⟨ra, ca⟩ := ro d rfl a rfl
        exact q' _ _ H1 (s.setOwn fr ra ca h1 h2)
      | _ => exact False.elim q')⟩
end
end Pyp

/-! Two-place operations by values. -/
namespace Pyp
open PySem L2

theorem cr_int {K M H i v} (h : CR K M H (.int i) v) : v = .int i := by
  have h' : Rep K M H (.int i) v := h
  rwa [Rep] at h'
theorem cr_bl {K M H b v} (h : CR K M H (.bl b) v) : v = .bl b := by
  have h' : Rep K M H (.bl b) v := h
  rwa [Rep] at h'
theorem cr_str {K M H x v} (h : CR K M H (.str x) v) : v = .str ⟨x.toArray⟩ := by
  have h' : Rep K M H (.str x) v := h
  rwa [Rep] at h'
theorem cr_non {K M H v} (h : CR K M H .non v) : v = .non := by
  have h' : Rep K M H .non v := h
  rwa [Rep] at h'
theorem cr_tup {K M H ds v} (h : CR K M H (.tup ds) v) : ∃ a xs, v = .ref a ∧ TupAt K M H a xs ∧ Reps K M H ds xs := by
  have h' : Rep K M H (.tup ds) v := h
  rwa [Rep] at h'
theorem cr_fz {K M H ns v} (h : CR K M H (.fz ns) v) : ∃ a, v = .ref a ∧ FzAt K M H a (ns.map V.int) := by
  have h' : Rep K M H (.fz ns) v := h
  rwa [Rep] at h'
theorem cr_lst {K M H ds v} (h : CR K M H (.lst ds) v) : ∃ a xs, v = .ref a ∧ H a = some (.lst xs) ∧ Reps K M H ds xs := h

/-! ends of an operation -/
section
variable {X : Cx} {M : Addr → Prop} {m : List Addr} {H : Hp} {Q : VK} {ph : PH} {ds : List D} {xs : List V} {d : D} {v : V}
theorem GE.dat (g : GE X M m H Q (.d d) ph) (r : Rel X.K M m H ph) (h : Rep X.K M H d v) : Q v H := g v H Frame.refl r h RO.d
theorem GE.tup (g : GE X M m H Q (.d (.tup ds)) ph) (r : Rel X.K M m H ph) (h : Reps X.K M H ds xs) : ∀ p, H p = none → Q (.ref p) (upd H p (.tup xs)) := fun p hp => g (.ref p) _ (Frame.new hp) (r.new hp) (tup_new r hp h) RO.d
theorem GE.lst (g : GE X M m H Q (.own (.lst ds)) ph) (r : Rel X.K M m H ph) (h : Reps X.K M H ds xs) : ∀ p, H p = none → Q (.ref p) (upd H p (.lst xs)) := fun p hp => g (.ref p) _ (Frame.new hp) (r.new hp) (own_new r hp hp h) (own_ro r hp h)
theorem GE.bl {b : Bool} (g : GE X M m H Q (.d (.bl b)) ph) (r : Rel X.K M m H ph) : Q (.bl b) H := g.dat r (by rw [Rep])
theorem GE.int {i : Int} (g : GE X M m H Q (.d (.int i)) ph) (r : Rel X.K M m H ph) : Q (.int i) H := g.dat r (by rw [Rep])
theorem GE.str {x : List Nat} (g : GE X M m H Q (.d (.str x)) ph) (r : Rel X.K M m H ph) : Q (.str ⟨x.toArray⟩) H := g.dat r (by rw [Rep])
theorem GE.non (g : GE X M m H Q (.d .non) ph) (r : Rel X.K M m H ph) : Q .non H := g.dat r (by rw [Rep])
end

/-! ### data as the kit's data -/
mutual
def D.py : D → PyData
  | .non => .none
  | .bl b => .bool b
  | .int i => .int i
  | .str x => .str ⟨x.toArray⟩
  | .tup ds => .tuple (pys ds)
  | .lst ds => .list (pys ds)
  | .dic _ _ => .dict []
  | .fz ns => .list (ns.map .int)
def pys : List D → List PyData
  | [] => []
  | d :: ds => d.py :: pys ds
end
theorem pys_map : ∀ ds : List D, pys ds = ds.map D.py
  | [] => by rw [pys]; rfl
  | d :: ds => by rw [pys, pys_map ds]; rfl
mutual
def D.nodic : D → Bool
  | .dic _ _ => false
  | .tup ds => nodics ds
  | .lst ds => nodics ds
  | _ => true
def nodics : List D → Bool
  | [] => true
  | d :: ds => d.nodic && nodics ds
end
theorem dpAll_ints {K : PySem.W.Frag} {H : Hp} : ∀ ns : List Int, DpAll K H (ns.map V.int) (ns.map PyData.int)
  | [] => .nil
  | n :: ns => .cons (.int n) (dpAll_ints ns)
mutual
theorem Rep.dp {K : PySem.W.Frag} {M : Addr → Prop} {H : Hp} : ∀ (d : D) (v : V), Rep K M H d v → d.py.canLay0 = true → Dp K H v d.py
  | .non, v, h, _ => by rw [Rep] at h; subst h; rw [D.py]; exact .non
  | .bl b, v, h, _ => by rw [Rep] at h; subst h; rw [D.py]; exact .bl b
  | .int i, v, h, _ => by rw [Rep] at h; subst h; rw [D.py]; exact .int i
  | .str x, v, h, _ => by rw [Rep] at h; subst h; rw [D.py]; exact .str _
  | .tup ds, v, h, c => by
    rw [Rep] at h
    obtain ⟨a, xs, rfl, t, r⟩ := h
    rw [D.py]
    exact .tup t.sq (Reps.dp ds xs r (by rw [D.py, PyData.canLay0] at c; exact c))
  | .lst ds, v, h, c => by
    rw [Rep] at h
    obtain ⟨a, xs, rfl, t, r⟩ := h
    rw [D.py]
    exact .lst t.sq (Reps.dp ds xs r (by rw [D.py, PyData.canLay0] at c; exact c))
  | .dic ks vs, v, h, c => by rw [D.py, PyData.canLay0] at c; cases c
  | .fz ns, v, h, _ => by
    rw [Rep] at h
    obtain ⟨a, rfl, t⟩ := h
    rw [D.py]
    exact .lst t.sq (dpAll_ints ns)
theorem Reps.dp {K : PySem.W.Frag} {M : Addr → Prop} {H : Hp} : ∀ (ds : List D) (xs : List V), Reps K M H ds xs → PyData.canLayAll0 (pys ds) = true → DpAll K H xs (pys ds)
  | [], xs, h, _ => by rw [Reps] at h; subst h; rw [pys]; exact .nil
  | d :: ds, xs, h, c => by
    rw [Reps] at h
    obtain ⟨v, vs, rfl, r, rs⟩ := h
    rw [pys, PyData.canLayAll0, Bool.and_eq_true] at c
    rw [pys]
    exact .cons (Rep.dp d v r c.1) (Reps.dp ds vs rs c.2)
end
theorem CR.dp {K : PySem.W.Frag} {M : Addr → Prop} {H : Hp} {d : D} {v : V} (h : CR K M H d v) (c : d.py.canLay0 = true) : Dp K H v d.py := by
  cases d with
  | lst ds =>
    obtain ⟨a, xs, rfl, t, r⟩ := h
    rw [D.py]
    exact .lst (SqL.of t) (Reps.dp ds xs r (by rw [D.py, PyData.canLay0] at c; exact c))
  | dic ks vs => rw [D.py, PyData.canLay0] at c; cases c
  | _ => exact Rep.dp (M := M) _ v h c
/-! ### own words for what can be compared, and for == -/
mutual
def D.okB : D → Bool
  | .dic _ _ => false
  | .fz _ => false
  | .str x => x.all fun c => decide (c < 0x110000)
  | .tup ds => oksB ds
  | .lst ds => oksB ds
  | _ => true
def oksB : List D → Bool
  | [] => true
  | d :: ds => d.okB && oksB ds
end
mutual
def D.dep : D → Nat
  | .tup ds => deps ds + 1
  | .lst ds => deps ds + 1
  | _ => 0
def deps : List D → Nat
  | [] => 0
  | d :: ds => max d.dep (deps ds)
end
def shp (d : D) : Bool := d.okB && decide (d.dep ≤ 64)
mutual
def deq : D → D → Bool
  | .non, .non => true
  | .bl a, .bl b => a == b
  | .bl a, .int j => (if a then 1 else 0) == j
  | .int i, .bl b => i == (if b then 1 else 0)
  | .int i, .int j => i == j
  | .str x, .str y => x == y
  | .tup ds, .tup es => deqs ds es
  | .lst ds, .lst es => deqs ds es
  | _, _ => false
def deqs : List D → List D → Bool
  | [], [] => true
  | d :: ds, e :: es => deq d e && deqs ds es
  | _, _ => false
end
mutual
theorem okB_lay : ∀ d : D, d.okB = true → d.py.canLay0 = true ∧ d.py.depth = d.dep
  | .non, _ => by rw [D.py, D.dep] <;> first | exact ⟨rfl, rfl⟩ | (intros; contradiction)
  | .bl b, _ => by rw [D.py, D.dep] <;> first | exact ⟨rfl, rfl⟩ | (intros; contradiction)
  | .int i, _ => by rw [D.py, D.dep] <;> first | exact ⟨rfl, rfl⟩ | (intros; contradiction)
  | .str x, h => by
    rw [D.okB] at h
    rw [D.py, D.dep]
    · refine ⟨?_, rfl⟩
      rw [PyData.canLay0]
      unfold PyData.strOk
      rw [List.all_toArray']
      · exact h
      · rfl
    all_goals (intros; contradiction)
  | .tup ds, h => by
    rw [D.okB] at h
    obtain ⟨h1, h2⟩ := oksB_lay ds h
    rw [D.py, D.dep, PyData.canLay0, PyData.depth, h2]
    exact ⟨h1, rfl⟩
  | .lst ds, h => by
    rw [D.okB] at h
    obtain ⟨h1, h2⟩ := oksB_lay ds h
    rw [D.py, D.dep, PyData.canLay0, PyData.depth, h2]
    exact ⟨h1, rfl⟩
  | .dic _ _, h => by rw [D.okB] at h; cases h
  | .fz _, h => by rw [D.okB] at h; cases h
theorem oksB_lay : ∀ ds : List D, oksB ds = true → PyData.canLayAll0 (pys ds) = true ∧ PyData.depthAll (pys ds) = deps ds
  | [], _ => by rw [pys, deps]; exact ⟨rfl, rfl⟩
  | d :: ds, h => by
    rw [oksB, Bool.and_eq_true] at h
    obtain ⟨h1, h2⟩ := okB_lay d h.1
    obtain ⟨h3, h4⟩ := oksB_lay ds h.2
    rw [pys, deps, PyData.canLayAll0, PyData.depthAll, h1, h3, h2, h4]
    exact ⟨rfl, rfl⟩
end
theorem shp_shaped {d : D} (h : shp d = true) : SeqAt.shaped d.py = true := by
  unfold shp at h
  rw [Bool.and_eq_true] at h
  obtain ⟨h1, h2⟩ := okB_lay d h.1
  unfold SeqAt.shaped
  rw [h1, h2, h.2]; rfl
theorem shp_ok {d : D} (h : shp d = true) : d.okB = true := by
  unfold shp at h
  rw [Bool.and_eq_true] at h
  exact h.1
theorem strEq (x y : List Nat) : ((⟨x.toArray⟩ : Str) == ⟨y.toArray⟩) = (x == y) := by
  rw [Bool.eq_iff_iff, beq_iff_eq, beq_iff_eq]
  constructor
  · intro h
    have := congrArg (fun s : Str => s.cps.toList) h
    simpa using this
  · intro h; rw [h]
mutual
theorem deq_eqv : ∀ d e : D, d.okB = true → e.okB = true → PyData.eqv d.py e.py = deq d e
  | .non, e, _, _ => by cases e <;> (simp only [D.py, deq, PyData.eqv])
  | .bl b, e, _, _ => by cases e <;> (simp only [D.py, deq, PyData.eqv])
  | .int i, e, _, _ => by cases e <;> (simp only [D.py, deq, PyData.eqv])
  | .str x, e, _, _ => by cases e <;> (simp only [D.py, deq, PyData.eqv, strEq])
  | .tup ds, e, h, h' => by
    cases e with
    | tup es =>
      rw [D.okB] at h h'
      simp only [D.py, deq, PyData.eqv]
      exact deqs_eqv ds es h h'
    | _ => simp only [D.py, deq, PyData.eqv]
  | .lst ds, e, h, h' => by
    cases e with
    | lst es =>
      rw [D.okB] at h h'
      simp only [D.py, deq, PyData.eqv]
      exact deqs_eqv ds es h h'
    | fz ns => rw [D.okB] at h'; cases h'
    | _ => simp only [D.py, deq, PyData.eqv]
  | .dic _ _, _, h, _ => by rw [D.okB] at h; cases h
  | .fz _, _, h, _ => by rw [D.okB] at h; cases h
theorem deqs_eqv : ∀ ds es : List D, oksB ds = true → oksB es = true → PyData.eqvAll (pys ds) (pys es) = deqs ds es
  | [], [], _, _ => by simp only [pys, deqs, PyData.eqvAll]
  | [], e :: es, _, _ => by simp only [pys, deqs, PyData.eqvAll]
  | d :: ds, [], _, _ => by simp only [pys, deqs, PyData.eqvAll]
  | d :: ds, e :: es, h, h' => by
    rw [oksB, Bool.and_eq_true] at h h'
    simp only [pys, deqs, PyData.eqvAll]
    rw [deq_eqv d e h.1 h'.1, deqs_eqv ds es h.2 h'.2]
end
theorem CR.dps {K : PySem.W.Frag} {M : Addr → Prop} {H : Hp} {d : D} {v : V} (h : CR K M H d v) (c : shp d = true) : Dp K H v d.py := h.dp (SeqAt.canLay_of_shaped (shp_shaped c))

section
variable {X : Cx}
def dEq : D → D → Option Val := fun d e => if shp d = true ∧ shp e = true then some (.d (.bl (deq d e))) else none
def dNe : D → D → Option Val := fun d e => if shp d = true ∧ shp e = true then some (.d (.bl (!deq d e))) else none
theorem o_eq (hu : X.A.units + 64 < cLine) : OpS X (compareOp .Eq) dEq := by
  intro pins s σ H x y u v M m ph dx dy val Q I rx ry r hx hy e g
  unfold dEq at e
  split at e
  · rename_i h
    cases e
    exact op_eqD hu pins s σ H x y u v Q I rx ry ⟨_, _, hx.dps h.1, hy.dps h.2, shp_shaped h.1, shp_shaped h.2, by rw [deq_eqv _ _ (shp_ok h.1) (shp_ok h.2)]; exact g.bl r⟩
  · cases e
theorem o_ne (hu : X.A.units + 64 < cLine) : OpS X (compareOp .NotEq) dNe := by
  intro pins s σ H x y u v M m ph dx dy val Q I rx ry r hx hy e g
  unfold dNe at e
  split at e
  · rename_i h
    cases e
    exact op_neD hu pins s σ H x y u v Q I rx ry ⟨_, _, hx.dps h.1, hy.dps h.2, shp_shaped h.1, shp_shaped h.2, by rw [deq_eqv _ _ (shp_ok h.1) (shp_ok h.2)]; exact g.bl r⟩
  · cases e

/-! in, not in: lists, tuples -/
def inB : D → D → Option Bool := fun d e => if shp d = true ∧ shp e = true then match e with
  | .lst ds => some (ds.any fun z => deq z d)
  | .tup ds => some (ds.any fun z => deq z d)
  | _ => none else none
def dIn : D → D → Option Val := fun d e => (inB d e).map fun b => .d (.bl b)
def dNotIn : D → D → Option Val := fun d e => (inB d e).map fun b => .d (.bl (!b))
theorem any_pys (d : D) (hd : d.okB = true) : ∀ ds : List D, oksB ds = true → ((pys ds).any fun z => PyData.eqv z d.py) = ds.any fun z => deq z d
  | [], _ => by rw [pys]; rfl
  | e :: ds, h => by
    rw [oksB, Bool.and_eq_true] at h
    rw [pys, List.any_cons, List.any_cons, any_pys d hd ds h.2, deq_eqv e d h.1 hd]
theorem in_core (hu : X.A.units + 65 < cLine) {pins s σ H x y u v M d e b Q} (I : Inv X pins σ H s) (rx : RelV x u) (ry : RelV y v) (hx : CR X.K M H d x) (hy : CR X.K M H e y) (h : inB d e = some b) (q : Q (.bl b) H) : wpAny (model X.prog X.w) X.A (compareOp .In u v) (EP X pins σ Q) X.xe s := by
  unfold inB at h
  split at h
  · rename_i hs
    have hyd := hy.dps hs.2
    obtain ⟨as, r1⟩ := Dp.reads I _ x u (hx.dps hs.1) rx
    obtain ⟨bs, r2⟩ := Dp.reads I _ y v hyd ry
    have s2 := SeqAt.canLay_of_shaped (shp_shaped hs.2)
    have o2 := shp_ok hs.2
    cases e with
    | lst ds =>
      cases h
      rw [D.py] at r2 s2
      exact SeqAt.in_list_reads r2 r1 (by rw [PyData.canLay0] at s2; exact s2) (SeqAt.canLay_of_shaped (shp_shaped hs.1)) (PyProof.Rows.room_in_shaped (shp_shaped hs.1) hu) ⟨.bl _, H, I, rfl, by rw [any_pys _ (shp_ok hs.1) _ (by rw [D.okB] at o2; exact o2)]; exact q⟩
    | tup ds =>
      cases h
      rw [D.py] at r2 s2
      exact SeqAt.in_tuple_reads r2 r1 (by rw [PyData.canLay0] at s2; exact s2) (SeqAt.canLay_of_shaped (shp_shaped hs.1)) (PyProof.Rows.room_in_shaped (shp_shaped hs.1) hu) ⟨.bl _, H, I, rfl, by rw [any_pys _ (shp_ok hs.1) _ (by rw [D.okB] at o2; exact o2)]; exact q⟩
    | _ => cases h
  · cases h
theorem notin_core (hu : X.A.units + 65 < cLine) {pins s σ H x y u v M d e b Q} (I : Inv X pins σ H s) (rx : RelV x u) (ry : RelV y v) (hx : CR X.K M H d x) (hy : CR X.K M H e y) (h : inB d e = some b) (q : Q (.bl (!b)) H) : wpAny (model X.prog X.w) X.A (compareOp .NotIn u v) (EP X pins σ Q) X.xe s := by
  unfold inB at h
  split at h
  · rename_i hs
    have hyd := hy.dps hs.2
    obtain ⟨as, r1⟩ := Dp.reads I _ x u (hx.dps hs.1) rx
    obtain ⟨bs, r2⟩ := Dp.reads I _ y v hyd ry
    have s2 := SeqAt.canLay_of_shaped (shp_shaped hs.2)
    have o2 := shp_ok hs.2
    cases e with
    | lst ds =>
      cases h
      rw [D.py] at r2 s2
      exact SeqAt.notIn_list_reads r2 r1 (by rw [PyData.canLay0] at s2; exact s2) (SeqAt.canLay_of_shaped (shp_shaped hs.1)) (PyProof.Rows.room_in_shaped (shp_shaped hs.1) hu) ⟨.bl _, H, I, rfl, by rw [any_pys _ (shp_ok hs.1) _ (by rw [D.okB] at o2; exact o2)]; exact q⟩
    | tup ds =>
      cases h
      rw [D.py] at r2 s2
      exact SeqAt.notIn_tuple_reads r2 r1 (by rw [PyData.canLay0] at s2; exact s2) (SeqAt.canLay_of_shaped (shp_shaped hs.1)) (PyProof.Rows.room_in_shaped (shp_shaped hs.1) hu) ⟨.bl _, H, I, rfl, by rw [any_pys _ (shp_ok hs.1) _ (by rw [D.okB] at o2; exact o2)]; exact q⟩
    | _ => cases h
  · cases h
theorem o_in (hu : X.A.units + 65 < cLine) : OpS X (compareOp .In) dIn := by
  intro pins s σ H x y u v M m ph dx dy val Q I rx ry r hx hy e g
  unfold dIn at e
  cases h : inB dx dy with
  | none => rw [h] at e; cases e
  | some b => rw [h] at e; cases e; exact in_core hu I rx ry hx hy h (g.bl r)
theorem o_notin (hu : X.A.units + 65 < cLine) : OpS X (compareOp .NotIn) dNotIn := by
  intro pins s σ H x y u v M m ph dx dy val Q I rx ry r hx hy e g
  unfold dNotIn at e
  cases h : inB dx dy with
  | none => rw [h] at e; cases e
  | some b => rw [h] at e; cases e; exact notin_core hu I rx ry hx hy h (g.bl r)

/-! is None -/
def isNonB : D → Bool
  | .non => true
  | _ => false
def dIs : D → D → Option Val := fun d e => match e with
  | .non => some (.d (.bl (isNonB d)))
  | _ => none
def dIsNot : D → D → Option Val := fun d e => match e with
  | .non => some (.d (.bl (!isNonB d)))
  | _ => none
theorem isNon_dec {K M H d x} (h : CR K M H d x) : decide (x = V.non) = isNonB d := by
  cases d with
  | non => rw [cr_non h]; rfl
  | bl b => rw [cr_bl h]; rfl
  | int b => rw [cr_int h]; rfl
  | str b => rw [cr_str h]; rfl
  | tup ds => obtain ⟨a, xs, e, _⟩ := cr_tup h; rw [e]; rfl
  | lst ds => obtain ⟨a, xs, e, _⟩ := cr_lst h; rw [e]; rfl
  | dic ks vs => obtain ⟨a, xs, e, _⟩ := h; rw [e]; rfl
  | fz ns => obtain ⟨a, e, _⟩ := cr_fz h; rw [e]; rfl
theorem o_is : OpS X (compareOp .Is) dIs := by
  intro pins s σ H x y u v M m ph dx dy val Q I rx ry r hx hy e g
  cases dy with
  | non => cases e; exact op_isN pins s σ H x y u v Q I rx ry ⟨cr_non hy, by rw [isNon_dec hx]; exact g.bl r⟩
  | _ => cases e
theorem o_isnot : OpS X (compareOp .IsNot) dIsNot := by
  intro pins s σ H x y u v M m ph dx dy val Q I rx ry r hx hy e g
  cases dy with
  | non => cases e; exact op_notN pins s σ H x y u v Q I rx ry ⟨cr_non hy, by rw [isNon_dec hx]; exact g.bl r⟩
  | _ => cases e

/-! < <= > >= -/
def cmpOk (d e : D) : Bool := match d, e with
  | .int _, .int _ => true
  | .non, _ => false
  | d, e => shp d && shp e && PySem.W.alike d.py e.py
def ltB (d e : D) : Bool := match d, e with
  | .int i, .int j => decide (i < j)
  | d, e => PySem.W.dataLt d.py e.py
def leB (d e : D) : Bool := match d, e with
  | .int i, .int j => decide (i ≤ j)
  | d, e => !PySem.W.dataLt e.py d.py
def dLt : D → D → Option Val := fun d e => if cmpOk d e = true then some (.d (.bl (ltB d e))) else none
def dLe : D → D → Option Val := fun d e => if cmpOk d e = true then some (.d (.bl (leB d e))) else none
def dGt : D → D → Option Val := fun d e => if cmpOk d e = true then some (.d (.bl (ltB e d))) else none
def dGe : D → D → Option Val := fun d e => if cmpOk d e = true then some (.d (.bl (leB e d))) else none
theorem ltB_eq (d e : D) : ltB d e = PySem.W.dataLt d.py e.py := by
  unfold ltB
  split
  · rw [D.py, D.py, PySem.W.dataLt_int]
  · rfl
theorem leB_eq (d e : D) : leB d e = !PySem.W.dataLt e.py d.py := by
  unfold leB
  split
  · rw [D.py, D.py, PySem.W.dataLt_int, PySem.W.not_lt_int]
  · rfl
theorem cmp_ok {d e : D} (h : cmpOk d e = true) : (shp d = true ∧ shp e = true ∧ PySem.W.alike d.py e.py = true) ∧ d.py ≠ .none := by
  unfold cmpOk at h
  split at h
  · refine ⟨⟨?_, ?_, ?_⟩, by rw [D.py]; exact fun z => nomatch z⟩
    · rfl
    · rfl
    · rw [D.py, D.py]; rfl
  · cases h
  · rename_i h1 _
    rw [Bool.and_eq_true, Bool.and_eq_true] at h
    refine ⟨⟨h.1.1, h.1.2, h.2⟩, fun z => ?_⟩
    cases d with
    | non => exact h1 rfl
    | _ => rw [D.py] at z; cases z
theorem cmp_core {op : CmpOp} {k : D → D → Bool} (hk : ∀ {s : Shared} {a b : Value} {da db : D} {as bs : List Addr} {Q : Value → Shared → Prop} {E : Value → Shared → Prop}, Reads s.heap a da.py as → Reads s.heap b db.py bs → PySem.W.alike da.py db.py = true → da.py ≠ .none → X.A.units + min da.py.depth db.py.depth < cLine → Q (.bool (k da db)) s → wpAny (model X.prog X.w) X.A (compareOp op a b) Q E s)
    (hu : X.A.units + 64 < cLine) : OpS X (compareOp op) (fun d e => if cmpOk d e = true then some (.d (.bl (k d e))) else none) := by
  intro pins s σ H x y u v M m ph dx dy val Q I rx ry r hx hy e g
  have e : (if cmpOk dx dy = true then some (Val.d (D.bl (k dx dy))) else none) = some val := e
  split at e
  · rename_i h
    cases e
    obtain ⟨⟨h1, h2, h3⟩, h4⟩ := cmp_ok h
    obtain ⟨as, r1⟩ := Dp.reads I _ x u (hx.dps h1) rx
    obtain ⟨bs, r2⟩ := Dp.reads I _ y v (hy.dps h2) ry
    exact hk r1 r2 h3 h4 (SeqAt.room_of_shaped (shp_shaped h1) hu) ⟨.bl _, H, I, rfl, g.bl r⟩
  · cases e
theorem o_lt (hu : X.A.units + 64 < cLine) : OpS X (compareOp .Lt) dLt := cmp_core (fun r1 r2 h1 h2 h3 q => PySem.W.lt_data r1 r2 h1 h2 h3 (by rw [← ltB_eq]; exact q)) hu
theorem o_gt (hu : X.A.units + 64 < cLine) : OpS X (compareOp .Gt) dGt := cmp_core (k := fun d e => ltB e d) (fun r1 r2 h1 h2 h3 q => PySem.W.gt_data r1 r2 h1 h2 h3 (by rw [← ltB_eq]; exact q)) hu
theorem o_le (hu : X.A.units + 64 < cLine) : OpS X (compareOp .LtE) dLe := cmp_core (fun r1 r2 h1 h2 h3 q => PySem.W.le_data r1 r2 h1 h2 h3 (by rw [← leB_eq]; exact q)) hu
theorem o_ge (hu : X.A.units + 64 < cLine) : OpS X (compareOp .GtE) dGe := cmp_core (k := fun d e => leB e d) (fun r1 r2 h1 h2 h3 q => PySem.W.ge_data r1 r2 h1 h2 h3 (by rw [← leB_eq]; exact q)) hu

/-! arithmetic -/
def dAdd : D → D → Option Val
  | .int i, .int j => some (.d (.int (i + j)))
  | .str x, .str y => if x.length + y.length ≤ lim then some (.d (.str (x ++ y))) else none
  | .tup xs, .tup ys => if xs.length + ys.length ≤ lim then some (.d (.tup (xs ++ ys))) else none
  | .lst xs, .lst ys => if xs.length + ys.length ≤ lim then some (.own (.lst (xs ++ ys))) else none
  | _, _ => none
theorem rep_tup {K M H ds a xs} (t : TupAt K M H a xs) (r : Reps K M H ds xs) : Rep K M H (.tup ds) (.ref a) := by
  rw [Rep]; exact ⟨a, xs, rfl, t, r⟩
theorem o_add : OpS X (binaryOp .Add) dAdd := by
  intro pins s σ H x y u v M m ph dx dy val Q I rx ry r hx hy e g
  unfold dAdd at e
  split at e
  · cases e
    exact op_add pins s σ H x y u v Q I rx ry ⟨_, _, cr_int hx, cr_int hy, g.int r⟩
  · split at e
    · rename_i hl
      cases e
      refine op_add_str pins s σ H x y u v Q I rx ry ⟨_, _, cr_str hx, cr_str hy, ?_, ?_⟩
      · simp only [Str.length, List.size_toArray]; exact lim_line hl
      · have := g.str r
        rw [show (⟨_⟩ : Str) ++ ⟨_⟩ = ⟨_⟩ from rfl]
        simpa using this
    · cases e
  · split at e
    · rename_i xs ys hl
      cases e
      obtain ⟨a, vs, rfl, t1, r1⟩ := cr_tup hx
      obtain ⟨b, ws, rfl, t2, r2⟩ := cr_tup hy
      refine op_catA pins s σ H _ _ u v Q I rx ry ⟨a, b, vs, ws, rfl, rfl, t1.sq, t2.sq, by rw [r1.length, r2.length]; exact lim_line hl, fun e => ?_, fun _ e => ?_, fun _ _ => g.tup r (r1.append r2)⟩
      · subst e
        have : xs = [] := by have := r1.length; simpa using this.symm
        subst this
        exact g.dat r (rep_tup t2 r2)
      · subst e
        have : ys = [] := by have := r2.length; simpa using this.symm
        subst this
        rw [List.append_nil] at g
        exact g.dat r (rep_tup t1 r1)
    · cases e
  · split at e
    · rename_i xs ys hl
      cases e
      obtain ⟨a, vs, rfl, t1, r1⟩ := cr_lst hx
      obtain ⟨b, ws, rfl, t2, r2⟩ := cr_lst hy
      exact op_cat pins s σ H _ _ u v Q I rx ry ⟨a, b, vs, ws, rfl, rfl, t1, t2, by rw [r1.length, r2.length]; exact lim_line hl, g.lst r (r1.append r2)⟩
    · cases e
  · cases e
def dSub : D → D → Option Val
  | .int i, .int j => some (.d (.int (i - j)))
  | _, _ => none
theorem o_sub : OpS X (binaryOp .Sub) dSub := by
  intro pins s σ H x y u v M m ph dx dy val Q I rx ry r hx hy e g
  unfold dSub at e
  split at e
  · cases e
    exact op_sub pins s σ H x y u v Q I rx ry ⟨_, _, cr_int hx, cr_int hy, g.int r⟩
  · cases e
/-- the bits that a product may have -/
def mulOk (i j : Int) : Bool := decide (i.natAbs < 18446744073709551616) || decide (j.natAbs < 18446744073709551616)
/-- what may be divided by -/
def divOk (j : Int) : Bool := decide (0 < j) && decide (j.natAbs < 1073741824)
def dMul : D → D → Option Val
  | .int i, .int j => if mulOk i j = true then some (.d (.int (i * j))) else none
  | .tup xs, .int k => if xs ≠ [] ∧ 2 ≤ k ∧ k ≤ 1000 ∧ xs.length ≤ 1000 then some (.d (.tup (List.replicate k.toNat xs).flatten)) else none
  | .lst xs, .int k => if xs.length ≤ 1000 ∧ -1000 ≤ k ∧ k ≤ 1000 then some (.own (.lst (List.replicate k.toNat xs).flatten)) else none
  | _, _ => none
theorem Reps.repl {K : PySem.W.Frag} {M : Addr → Prop} {H : Hp} {ds : List D} {xs : List V} (h : Reps K M H ds xs) : ∀ k : Nat, Reps K M H (List.replicate k ds).flatten (List.replicate k xs).flatten
  | 0 => Reps.nil
  | k + 1 => by
    rw [List.replicate_succ, List.replicate_succ, List.flatten_cons, List.flatten_cons]
    exact h.append (h.repl k)
theorem o_mul : OpS X (binaryOp .Mult) dMul := by
  intro pins s σ H x y u v M m ph dx dy val Q I rx ry r hx hy e g
  unfold dMul at e
  split at e
  · split at e
    · rename_i h
      cases e
      refine op_mul pins s σ H x y u v Q I rx ry ⟨_, _, cr_int hx, cr_int hy, ?_, g.int r⟩
      unfold mulOk at h
      rw [Bool.or_eq_true, decide_eq_true_eq, decide_eq_true_eq] at h
      exact h.imp (fun h => ⟨by omega, by omega⟩) fun h => ⟨by omega, by omega⟩
    · cases e
  · split at e
    · rename_i xs k h
      cases e
      obtain ⟨a, vs, rfl, t1, r1⟩ := cr_tup hx
      refine op_repT pins s σ H _ _ u v Q I rx ry ⟨a, k, vs, rfl, cr_int hy, t1.sq, fun e => h.1 ?_, h.2.1, h.2.2.1, by rw [r1.length]; exact h.2.2.2, g.tup r (r1.repl _)⟩
      subst e
      have := r1.length; simpa using this.symm
    · cases e
  · split at e
    · rename_i xs k h
      cases e
      obtain ⟨a, vs, rfl, t1, r1⟩ := cr_lst hx
      refine op_rep pins s σ H _ _ u v Q I rx ry ⟨a, k, vs, rfl, cr_int hy, t1, by omega, by omega, ?_, g.lst r (r1.repl _)⟩
      rw [r1.length]
      refine lim_line (Nat.le_trans (Nat.mul_le_mul h.1 (show k.toNat ≤ 1000 by omega)) (by decide))
    · cases e
  · cases e
def dDiv : D → D → Option Val
  | .int i, .int j => if divOk j = true then some (.d (.int (i / j))) else none
  | _, _ => none
theorem o_div : OpS X (binaryOp .FloorDiv) dDiv := by
  intro pins s σ H x y u v M m ph dx dy val Q I rx ry r hx hy e g
  unfold dDiv at e
  split at e
  · split at e
    · rename_i h
      cases e
      unfold divOk at h
      rw [Bool.and_eq_true, decide_eq_true_eq, decide_eq_true_eq] at h
      exact op_fdiv pins s σ H x y u v Q I rx ry ⟨_, _, cr_int hx, cr_int hy, ⟨h.1, by omega⟩, g.int r⟩
    · cases e
  · cases e
def dMod : D → D → Option Val
  | .int i, .int j => if 0 < j then some (.d (.int (i % j))) else none
  | _, _ => none
theorem o_mod : OpS X (binaryOp .Mod) dMod := by
  intro pins s σ H x y u v M m ph dx dy val Q I rx ry r hx hy e g
  unfold dMod at e
  split at e
  · split at e
    · rename_i h
      cases e
      exact op_mod pins s σ H x y u v Q I rx ry ⟨_, _, cr_int hx, cr_int hy, h, g.int r⟩
    · cases e
  · cases e
def dPow : D → D → Option Val
  | .int i, .int j => if 0 ≤ j ∧ j ≤ 1000 ∧ i.natAbs < 2 ^ 64 then some (.d (.int (i ^ j.toNat))) else none
  | _, _ => none
theorem o_pow : OpS X (binaryOp .Pow) dPow := by
  intro pins s σ H x y u v M m ph dx dy val Q I rx ry r hx hy e g
  unfold dPow at e
  split at e
  · split at e
    · rename_i h
      cases e
      exact op_pow pins s σ H x y u v Q I rx ry ⟨_, _, cr_int hx, cr_int hy, ⟨h.1, by omega, h.2.2⟩, g.int r⟩
    · cases e
  · cases e
end
end Pyp

/-! Chains, subscripts, slices, calls of builtins. -/
namespace Pyp
open PySem L2

section
variable {X : Cx} {W : WX} {a b c e : Expr} {xa xb xc xe : Ex} {pos : Pos}

/-! -a -/
def eNeg (x : Ex) : Ex := fun env ph => (x env ph).bind fun v ph1 => match v with
  | .d (.int i) => .ok (.d (.int (-i))) ph1
  | _ => .bad
theorem s_neg (h : SE X W a xa) : SE X W (.UnaryOp .USub a pos) (eNeg xa) := ⟨fun M m σ H env ph r er Q q => tW_of (pe_un un_neg tW_pe) (by
  refine h.bind r er q fun v ph1 w H1 fr r1 er1 rv _ q1 => ?_
  cases v with
  | d d =>
    cases d with
    | int i =>
      rw [RV, Rep] at rv
      exact ⟨i, rv, q1 _ H1 fr r1 (by rw [RV, Rep]) RO.d⟩
    | _ => exact q1.elim
  | _ => exact q1.elim)⟩

/-! a < b < c -/
def eChain (f g : D → D → Option Val) (a b c : Ex) : Ex := fun env ph => (a env ph).bind fun va ph1 => (b env ph1).bind fun vb ph2 => match va, vb with
  | .d x, .d y => match f x y with
    | some (.d (.bl true)) => (c env ph2).bind fun vc ph3 => match vc.cont ph3 with
      | some z => Res.of (g y z) ph3
      | _ => .bad
    | some (.d (.bl false)) => .ok (.d (.bl false)) ph2
    | _ => .bad
  | _, _ => .bad
theorem chain_core {f g : D → D → Option Val} {F G : Value → Value → Sem Value} (ho : OpS X F f) (ho' : OpS X G g) (ha : SE X W a xa) (hb : SE X W b xb) (hc : SE X W c xc) {M m σ H env ph Q} (r : Rel X.K M m H ph) (er : EnvR X.K M m σ H env)
    (q : Post X W M m σ H (GE X M m H Q) (eChain f g xa xb xc env ph)) : tChain (rW X F) (rW X G) (tW X a) (tW X b) (tW X c) σ H Q := by
  refine ha.bind r er q fun va ph1 v1 H1 fr1 r1 er1 rv1 _ q1 => ?_
  refine hb.bind r1 er1 q1 fun vb ph2 v2 H2 fr2 r2 er2 rv2 _ q2 => ?_
  cases va with
  | d dx =>
    cases vb with
    | d dy =>
      have rx2 : CR X.K M H2 dx v1 := (rv1.keep r1 fr2).cr r2 rfl
      have ry2 : CR X.K M H2 dy v2 := rv2.cr r2 rfl
      have q3 : Post X W M m σ H2 (GE X M m H Q) (match f dx dy with
        | some (.d (.bl true)) => (xc env ph2).bind fun vc ph3 => match vc.cont ph3 with
          | some z => Res.of (g dy z) ph3
          | _ => .bad
        | some (.d (.bl false)) => .ok (.d (.bl false)) ph2
        | _ => .bad) := q2
      intro pins s σ' u v I rx ry
      split at q3
      · rename_i ef
        refine ho pins s σ' H2 v1 v2 u v M m ph2 dx dy (.d (.bl true)) _ I rx ry r2 rx2 ry2 ef fun z H3 f3 r3 rv3 _ => ?_
        rw [RV, Rep] at rv3
        refine ⟨true, rv3, ?_⟩
        rw [if_pos rfl]
        refine hc.bind r3 (er2.keep r2 f3) (Post.step f3 q3) fun vc ph4 v4 H4 fr4 r4 er4 rv4 _ q4 => ?_
        split at q4
        · rename_i dz ez
          obtain ⟨val, ev, gg⟩ := Post.of (Q := Q) (M := M) (m := m) (H := H4) (X := X) (W := W) (σ := σ) (o := g dy dz) (ph := ph4) (Post.mono (fun _ _ g => GE.at (((fr1.trans fr2).trans f3).trans fr4) r4 g) q4)
          intro pins s σ' u v I rx ry
          exact ho' pins s σ' H4 v2 v4 u v M m ph4 dy dz val Q I rx ry r4 ((((rv2.keep r2 f3).keep r3 fr4)).cr r4 rfl) (rv4.cr r4 ez) ev gg
        · exact q4.elim
      · rename_i ef
        refine ho pins s σ' H2 v1 v2 u v M m ph2 dx dy (.d (.bl false)) _ I rx ry r2 rx2 ry2 ef fun z H3 f3 r3 rv3 _ => ?_
        rw [RV, Rep] at rv3
        refine ⟨false, rv3, ?_⟩
        rw [if_neg Bool.false_ne_true]
        exact q3 _ H3 ((fr1.trans fr2).trans f3) r3 rv_bl RO.d
      · exact q3.elim
    | _ => exact q2.elim
  | _ => exact q2.elim
theorem s_chain {op op' : CmpOp} {f g : D → D → Option Val} (ho : OpS X (compareOp op) f) (ho' : OpS X (compareOp op') g) (ha : SE X W a xa) (hb : SE X W b xb) (hc : SE X W c xc) (hm : lastMarks [op, op'] [b, c] = false := by with_unfolding_all rfl) :
    SE X W (.Compare a [op, op'] [b, c] pos) (eChain f g xa xb xc) := ⟨fun M m σ H env ph r er Q q => tW_of (pe_chain rW_op rW_op tW_pe tW_pe tW_pe hm) (chain_core ho ho' ha hb hc r er q)⟩
theorem t_chain {op op' : CmpOp} {f g : D → D → Option Val} (ho : OpS X (compareOp op) f) (ho' : OpS X (compareOp op') g) (ha : SE X W a xa) (hb : SE X W b xb) (hc : SE X W c xc) (hm : lastMarks [op, op'] [b, c] = false := by with_unfolding_all rfl) :
    ST X W (.Compare a [op, op'] [b, c] pos) (tB (eChain f g xa xb xc)) := ⟨fun M m σ H env ph r er Q q => tWT_of (pt_chain rW_op rW_op tW_pe tW_pe tW_pe hm) (chain_core ho ho' ha hb hc r er (Post.tB q))⟩

/-! a[i] -/
def dIx : D → D → Option Val
  | .tup ds, .int i => (atI ds i).map .d
  | .lst ds, .int i => (atI ds i).map .d
  | .fz ns, .int i => (atI ns i).map fun n => .d (.int n)
  | .str x, .int i => if x.length ≤ lim then (atI x i).map fun c => .d (.str [c]) else none
  | _, _ => none
theorem atI_rep {K M H} {ds : List D} {xs : List V} (r : Reps K M H ds xs) {i : Int} {d : D} (e : atI ds i = some d) : ∃ v, atI xs i = some v ∧ Rep K M H d v := by
  unfold atI at e ⊢
  rw [r.length]
  cases h : ixN ds.length i with
  | none => rw [h] at e; cases e
  | some j =>
    rw [h] at e
    exact r.get e
theorem atI_map {α β : Type} {xs : List α} {i : Int} {x : α} {f : α → β} (h : atI xs i = some x) : atI (xs.map f) i = some (f x) := by
  unfold atI at h ⊢
  rw [List.length_map]
  cases q : ixN xs.length i with
  | none => rw [q] at h; cases h
  | some j =>
    rw [q] at h
    show (xs.map f)[j]? = _
    rw [List.getElem?_map, show xs[j]? = some x from h]; rfl
def rWI (X : Cx) : R2 := fun x y H Q => ∃ (t : Bool) (p : Addr) (xs : List V) (i : Int) (v : V), x = .ref p ∧ y = .int i ∧ Sq t X.K H p xs ∧ atI xs i = some v ∧ Q v H
theorem s_ix (ha : SE X W a xa) (hb : SE X W b xb) (hs : PlainIx b := by exact fun _ _ => rfl) : SE X W (.Subscript a b pos) (eBin dIx xa xb) := ⟨fun M m σ H env ph r er Q q => tW_of (pe_ix ix_seq tW_pe tW_pe hs) (by
  refine ha.bind r er q fun va ph1 v1 H1 fr1 r1 er1 rv1 _ q1 => ?_
  refine hb.bind r1 er1 q1 fun vb ph2 v2 H2 fr2 r2 er2 rv2 _ q2 => ?_
  split at q2
  · rename_i dx dy e1 e2
    obtain ⟨val, ev, g⟩ := Post.of (Q := Q) (M := M) (m := m) (H := H2) (X := X) (W := W) (σ := σ) (o := dIx dx dy) (ph := ph2) (Post.mono (fun _ _ g => GE.at (fr1.trans fr2) r2 g) q2)
    have c1 := (rv1.keep r1 fr2).cr r2 e1
    have c2 := rv2.cr r2 e2
    unfold dIx at ev
    split at ev
    · rename_i ds i
      cases h : atI ds i with
      | none => rw [h] at ev; cases ev
      | some d =>
        rw [h] at ev; cases ev
        obtain ⟨p, xs, rfl, t, rs⟩ := cr_tup c1
        obtain ⟨v, ea, rv⟩ := atI_rep rs h
        exact .inr (.inl ⟨p, xs, i, v, rfl, cr_int c2, t.sq, ea, g.dat r2 rv⟩)
    · rename_i ds i
      cases h : atI ds i with
      | none => rw [h] at ev; cases ev
      | some d =>
        rw [h] at ev; cases ev
        obtain ⟨p, xs, rfl, t, rs⟩ := cr_lst c1
        obtain ⟨v, ea, rv⟩ := atI_rep rs h
        exact .inl ⟨p, xs, i, v, rfl, cr_int c2, SqL.of t, ea, g.dat r2 rv⟩
    · rename_i ns i
      cases h : atI ns i with
      | none => rw [h] at ev; cases ev
      | some n =>
        rw [h] at ev; cases ev
        obtain ⟨p, rfl, t⟩ := cr_fz c1
        exact .inl ⟨p, _, i, .int n, rfl, cr_int c2, t.sq, atI_map h, g.int r2⟩
    · rename_i x i
      split at ev
      · rename_i hl
        cases h : atI x i with
        | none => rw [h] at ev; cases ev
        | some d =>
          rw [h] at ev; cases ev
          refine .inr (.inr ⟨_, i, d, cr_str c1, cr_int c2, ?_, by simpa using h, ?_⟩)
          · simp only [Str.length, List.size_toArray]; exact lim_line hl
          · exact g.str r2
      · cases ev
    · cases ev
  · exact q2.elim)⟩

theorem reps_ints {K M H} : ∀ ns : List Int, Reps K M H (ns.map D.int) (ns.map V.int)
  | [] => Reps.nil
  | n :: ns => .cons (by rw [Rep]) (reps_ints ns)
/-! a[lo:hi] -/
abbrev Px := Env → PH → Res (Option Int)
structure SP (X : Cx) (W : WX) (o : Option Expr) (x : Px) : Prop where
  run : ∀ M m σ H env ph, Rel X.K M m H ph → EnvR X.K M m σ H env → ∀ Q, Post X W M m σ H (fun i ph' => ∀ H', Frame m H H' → Rel X.K M m H' ph' → Q i H') (x env ph) → ∃ t, PO X o t ∧ t σ H Q
def pNo : Px := fun _ ph => .ok none ph
def pAt (x : Ex) : Px := fun env ph => (x env ph).bind fun v ph1 => match v with
  | .d (.int i) => .ok (some i) ph1
  | _ => .bad
theorem p_no : SP X W none pNo := ⟨fun M m σ H env ph r er Q q => ⟨_, po_none, q H Frame.refl r⟩⟩
theorem p_at (h : SE X W a xa) : SP X W (some a) (pAt xa) := ⟨fun M m σ H env ph r er Q q => ⟨_, po_some tW_pe, by
  refine h.bind r er q fun v ph1 w H1 fr r1 er1 rv _ q1 => ?_
  cases v with
  | d d =>
    cases d with
    | int i =>
      rw [RV, Rep] at rv
      exact ⟨i, rv, q1 H1 fr r1⟩
    | _ => exact q1.elim
  | _ => exact q1.elim⟩⟩
def tWP (X : Cx) (o : Option Expr) : TO := fun σ H Q => ∀ pins s, Inv X pins σ H s → wpAny (model X.prog X.w) X.A (evalPart o X.env) (fun u s' => ∃ i H', Inv X pins σ H' s' ∧ IsPart u i ∧ Q i H') X.xe s
theorem tWP_po {o : Option Expr} : PO X o (tWP X o) := ⟨fun pins s σ H Q I h => h pins s I⟩
theorem tWP_of {o : Option Expr} {σ : L2.St} {H : Hp} {Q : Option Int → Hp → Prop} (h : ∃ t, PO X o t ∧ t σ H Q) : tWP X o σ H Q := fun pins s I => let ⟨_, p, q⟩ := h; p.run pins s σ H Q I q
theorem SP.bind {o : Option Expr} {x : Px} {α : Type} {G : α → PH → Prop} {f : Option Int → PH → Res α} (h : SP X W o x) {M m σ H env ph} (r : Rel X.K M m H ph) (er : EnvR X.K M m σ H env) {Q : Option Int → Hp → Prop} (q : Post X W M m σ H G ((x env ph).bind f))
    (k : ∀ i ph1 H1, Frame m H H1 → Rel X.K M m H1 ph1 → EnvR X.K M m σ H1 env → Post X W M m σ H1 G (f i ph1) → Q i H1) : tWP X o σ H Q := by
  refine tWP_of (h.run M m σ H env ph r er Q ?_)
  cases hx : x env ph with
  | ok val ph1 => rw [hx] at q; exact fun H1 fr r1 => k val ph1 H1 fr r1 (er.keep r fr) (Post.step fr q)
  | exc c fs ph1 => rw [hx] at q; exact q
  | bad => rw [hx] at q; exact q
def cutL {α : Type} (ds : List α) (lo hi : Option Int) : List α := (ds.drop (HT.sIx ds.length 0 lo)).take (HT.sIx ds.length ds.length hi - HT.sIx ds.length 0 lo)
theorem cutL_rep {K M H} {ds : List D} {xs : List V} (r : Reps K M H ds xs) (lo hi : Option Int) : Reps K M H (cutL ds lo hi) (cutV xs lo hi) := by
  unfold cutL cutV
  rw [r.length]
  exact (r.drop _).take _
theorem cutL_whole {α : Type} {ds : List α} {lo hi : Option Int} (h : HT.sIx ds.length 0 lo = 0 ∧ HT.sIx ds.length ds.length hi = ds.length) : cutL ds lo hi = ds := by
  unfold cutL
  rw [h.1, h.2]
  simp
def dCut (d : D) (lo hi : Option Int) : Option Val := match d with
  | .tup ds => some (.d (.tup (cutL ds lo hi)))
  | .lst ds => some (.own (.lst (cutL ds lo hi)))
  | .fz ns => some (.own (.lst ((cutL ns lo hi).map .int)))
  | .str x => if x.length ≤ lim then some (.d (.str (cutL x lo hi))) else none
  | _ => none
def eCut (a : Ex) (lo hi : Px) : Ex := fun env ph => (a env ph).bind fun v ph1 => (lo env ph1).bind fun l ph2 => (hi env ph2).bind fun h ph3 => match v.cont ph3 with
  | some d => Res.of (dCut d l h) ph3
  | none => .bad
theorem s_cut {lo hi : Option Expr} {xl xh : Px} {p2 : Pos} (ha : SE X W a xa) (hl : SP X W lo xl) (hh : SP X W hi xh) : SE X W (.Subscript a (.Slice lo hi none p2) pos) (eCut xa xl xh) := ⟨fun M m σ H env ph r er Q q => tW_of (pe_slice (sl_tupA.or (sl_list.or sl_str)) tW_pe tWP_po tWP_po) (by
  refine ha.bind r er q fun va ph1 v1 H1 fr1 r1 er1 rv1 _ q1 => ?_
  refine hl.bind r1 er1 q1 fun l ph2 H2 fr2 r2 er2 q2 => ?_
  refine hh.bind r2 er2 q2 fun h ph3 H3 fr3 r3 er3 q3 => ?_
  split at q3
  · rename_i d ed
    obtain ⟨val, ev, g⟩ := Post.of (Q := Q) (M := M) (m := m) (H := H3) (X := X) (W := W) (σ := σ) (o := dCut d l h) (ph := ph3) (Post.mono (fun _ _ g => GE.at ((fr1.trans fr2).trans fr3) r3 g) q3)
    have c := ((rv1.keep r1 fr2).keep r2 fr3).cr r3 ed
    cases d with
    | tup ds =>
      cases ev
      obtain ⟨p, xs, rfl, t, rs⟩ := cr_tup c
      refine .inl ⟨p, xs, rfl, t.sq, fun hw => ?_, fun _ => g.tup r3 (cutL_rep rs l h)⟩
      rw [rs.length] at hw
      rw [cutL_whole hw] at g
      exact g.dat r3 (rep_tup t rs)
    | lst ds =>
      cases ev
      obtain ⟨p, xs, rfl, t, rs⟩ := cr_lst c
      exact .inr (.inl ⟨p, xs, rfl, SqL.of t, g.lst r3 (cutL_rep rs l h)⟩)
    | fz ns =>
      cases ev
      obtain ⟨p, rfl, t⟩ := cr_fz c
      refine .inr (.inl ⟨p, _, rfl, t.sq, g.lst r3 ?_⟩)
      have e : cutV (ns.map V.int) l h = (cutL ns l h).map V.int := by
        unfold cutV cutL
        rw [List.length_map, List.map_take, List.map_drop]
      rw [e]
      exact reps_ints _
    | str x =>
      have ev : (if x.length ≤ lim then some (Val.d (.str (cutL x l h))) else none) = some val := ev
      split at ev
      · rename_i hle
        cases ev
        refine .inr (.inr ⟨_, cr_str c, ?_, ?_⟩)
        · simp only [Str.length, List.size_toArray]; exact lim_line hle
        · have e : cutS ⟨x.toArray⟩ l h = ⟨(cutL x l h).toArray⟩ := by
            unfold cutS cutL
            simp [Str.length]
          rw [e]; exact g.str r3
      · cases ev
    | _ => cases ev
  · exact q3.elim)⟩

/-! calls of builtins -/
def CRs (K : PySem.W.Frag) (M : Addr → Prop) (H : Hp) : List D → List V → Prop
  | [], vs => vs = []
  | d :: ds, vs => ∃ w ws, vs = w :: ws ∧ CR K M H d w ∧ CRs K M H ds ws
def conts (ph : PH) : List Val → Option (List D)
  | [] => some []
  | x :: xs => match x.cont ph, conts ph xs with
    | some d, some ds => some (d :: ds)
    | _, _ => none
theorem RVs.crs {K M m H0 H ph} (r : Rel K M m H ph) : ∀ {xs : List Val} {vs : List V} {ds : List D}, RVs K M m H0 H vs xs → conts ph xs = some ds → CRs K M H ds vs
  | [], vs, ds, h, e => by cases e; exact h
  | x :: xs, vs, ds, ⟨w, ws, e1, h1, h2⟩, e => by
    unfold conts at e
    split at e
    · rename_i d ds' q1 q2
      cases e
      exact ⟨w, ws, e1, h1.cr r q1, RVs.crs r h2 q2⟩
    · cases e
def BlS (X : Cx) (F : Value) (f : List D → Option Val) : Prop := ∀ pins s σ H vs us M m ph ds val Q, Inv X pins σ H s → Vals vs us → Rel X.K M m H ph → CRs X.K M H ds vs → f ds = some val → GE X M m H Q val ph → wpAny (model X.prog X.w) X.A (call F us) (EP X pins σ Q) X.xe s
def rWB (X : Cx) (F : Value) : List V → Hp → VK → Prop := fun vs H Q => ∀ pins s σ us, Inv X pins σ H s → Vals vs us → wpAny (model X.prog X.w) X.A (call F us) (EP X pins σ Q) X.xe s
theorem rWB_cr {F : Value} : CallR X F (rWB X F) := fun pins s σ H xs us Q I r h => h pins s σ us I r
def eB (f : List D → Option Val) (xs : Ax) : Ex := fun env ph => (xs env ph).bind fun vs ph1 => match conts ph1 vs with
  | some ds => Res.of (f ds) ph1
  | none => .bad
theorem bl_core {F : Value} {f : List D → Option Val} (ho : BlS X F f) {es : List Expr} {xs : Ax} (h : SA X W es xs) {M m σ H env ph Q} (r : Rel X.K M m H ph) (er : EnvR X.K M m σ H env) (q : Post X W M m σ H (GE X M m H Q) (eB f xs env ph)) :
    tCB (rWB X F) (tWA X es) σ H Q := by
  refine h.bind r er q fun vs ph1 ws H1 fr r1 er1 rv q1 => ?_
  split at q1
  · rename_i ds ed
    obtain ⟨val, ev, g⟩ := Post.of (Q := Q) (M := M) (m := m) (H := H1) (X := X) (W := W) (σ := σ) (o := f ds) (ph := ph1) (Post.mono (fun _ _ g => GE.at fr r1 g) q1)
    intro pins s σ' us I rv'
    exact ho pins s σ' H1 ws us M m ph1 ds val Q I rv' r1 (rv.crs r1 ed) ev g
  · exact q1.elim
theorem s_bl1 {id : String} {x : Str} {es : List Expr} {xs : Ax} {p : Pos} {f : List D → Option Val} (ho : BlS X (.builtin id) f) (hm : X.mg x = none) (hv : bootBuiltins x = some (.builtin id)) (h : SA X W (e :: es) xs) (hg : Gl X x := by rfl) (hn : x ≠ "__name__" := by decide) (hdb : (x == ("__debug__" : Str)) = false := by decide)
    (he : starEach (e :: es) X.env = (false, eval e X.env) :: starEach es X.env := by rfl) (hpl : (backTo pos (starEach es X.env)).any (·.1) = false := by rfl) : SE X W (.Call (.Name x p) (e :: es) [] pos) (eB f xs) :=
  ⟨fun M m σ H env ph r er Q q => tW_of (pe_callB rWB_cr hg hm hv tWA_pa hn hdb he hpl) (bl_core ho h r er q)⟩
theorem s_ty1 {T : String} {x : Str} {es : List Expr} {xs : Ax} {p : Pos} {f : List D → Option Val} (ho : BlS X (.type T) f) (hm : X.mg x = none) (hv : bootBuiltins x = some (.type T)) (h : SA X W (e :: es) xs) (hg : Gl X x := by rfl) (hn : x ≠ "__name__" := by decide) (hdb : (x == ("__debug__" : Str)) = false := by decide)
    (he : starEach (e :: es) X.env = (false, eval e X.env) :: starEach es X.env := by rfl) (hpl : (backTo pos (starEach es X.env)).any (·.1) = false := by rfl) : SE X W (.Call (.Name x p) (e :: es) [] pos) (eB f xs) :=
  ⟨fun M m σ H env ph r er Q q => tW_of (pe_callTy rWB_cr hg hm hv tWA_pa hn hdb he hpl) (bl_core ho h r er q)⟩
theorem crs1 {K M H d vs} (h : CRs K M H [d] vs) : ∃ v, vs = [v] ∧ CR K M H d v := by
  obtain ⟨w, ws, e, h1, h2⟩ := h
  cases (show ws = [] from h2)
  exact ⟨w, e, h1⟩
theorem crs2 {K M H d d' vs} (h : CRs K M H [d, d'] vs) : ∃ v v', vs = [v, v'] ∧ CR K M H d v ∧ CR K M H d' v' := by
  obtain ⟨w, ws, e, h1, h2⟩ := h
  obtain ⟨v', e', h3⟩ := crs1 h2
  subst e'
  exact ⟨w, v', e, h1, h3⟩
/-! len -/
def bLen : List D → Option Val
  | [.tup ds] => some (.d (.int ds.length))
  | [.lst ds] => some (.d (.int ds.length))
  | [.fz ns] => some (.d (.int ns.length))
  | [.str x] => if x.length ≤ lim then some (.d (.int x.length)) else none
  | _ => none
theorem b_len : BlS X (.builtin "len") bLen := by
  intro pins s σ H vs us M m ph ds val Q I rv r hc e g
  unfold bLen at e
  split at e
  · cases e
    obtain ⟨v, rfl, c⟩ := crs1 hc
    obtain ⟨p, xs, rfl, t, rs⟩ := cr_tup c
    exact call_len_seq pins s σ H _ us Q I rv ⟨p, xs, rfl, .inr t.sq, by rw [rs.length]; exact g.int r⟩
  · cases e
    obtain ⟨v, rfl, c⟩ := crs1 hc
    obtain ⟨p, xs, rfl, t, rs⟩ := cr_lst c
    exact call_len_seq pins s σ H _ us Q I rv ⟨p, xs, rfl, .inl (SqL.of t), by rw [rs.length]; exact g.int r⟩
  · cases e
    obtain ⟨v, rfl, c⟩ := crs1 hc
    obtain ⟨p, rfl, t⟩ := cr_fz c
    exact call_len_seq pins s σ H _ us Q I rv ⟨p, _, rfl, .inl t.sq, by rw [List.length_map]; exact g.int r⟩
  · split at e
    · rename_i hl
      cases e
      obtain ⟨v, rfl, c⟩ := crs1 hc
      refine call_len_str pins s σ H _ us Q I rv ⟨_, by rw [cr_str c], ?_, ?_⟩
      · simp only [Str.length, List.size_toArray]; exact lim_line hl
      · have := g.int r
        simpa [Str.length] using this
    · cases e
  · cases e
def bAbs : List D → Option Val
  | [.int i] => some (.d (.int (if i < 0 then -i else i)))
  | _ => none
theorem b_abs : BlS X (.builtin "abs") bAbs := by
  intro pins s σ H vs us M m ph ds val Q I rv r hc e g
  unfold bAbs at e
  split at e
  · cases e
    obtain ⟨v, rfl, c⟩ := crs1 hc
    exact call_abs pins s σ H _ us Q I rv ⟨_, by rw [cr_int c], g.int r⟩
  · cases e
def bInt : List D → Option Val
  | [.int i] => some (.d (.int i))
  | [.bl b] => some (.d (.int (if b then 1 else 0)))
  | _ => none
theorem b_int : BlS X (.type "int") bInt := by
  intro pins s σ H vs us M m ph ds val Q I rv r hc e g
  unfold bInt at e
  split at e
  · cases e
    obtain ⟨v, rfl, c⟩ := crs1 hc
    exact call_int1 pins s σ H _ us Q I rv (.inl ⟨_, by rw [cr_int c], g.int r⟩)
  · cases e
    obtain ⟨v, rfl, c⟩ := crs1 hc
    exact call_int1 pins s σ H _ us Q I rv (.inr ⟨_, by rw [cr_bl c], g.int r⟩)
  · cases e
def bTup : List D → Option Val
  | [.tup ds] => some (.d (.tup ds))
  | [.lst ds] => some (.d (.tup ds))
  | _ => none
theorem b_tup : BlS X (.type "tuple") bTup := by
  intro pins s σ H vs us M m ph ds val Q I rv r hc e g
  unfold bTup at e
  split at e
  · cases e
    obtain ⟨v, rfl, c⟩ := crs1 hc
    obtain ⟨p, xs, rfl, t, rs⟩ := cr_tup c
    exact call_tuple_of pins s σ H _ us Q I rv ⟨p, xs, rfl, .inr ⟨t.sq, g.dat r (rep_tup t rs)⟩⟩
  · cases e
    obtain ⟨v, rfl, c⟩ := crs1 hc
    obtain ⟨p, xs, rfl, t, rs⟩ := cr_lst c
    exact call_tuple_of pins s σ H _ us Q I rv ⟨p, xs, rfl, .inl ⟨SqL.of t, g.tup r rs⟩⟩
  · cases e
def bLst : List D → Option Val
  | [.tup ds] => some (.own (.lst ds))
  | [.lst ds] => some (.own (.lst ds))
  | _ => none
theorem b_lst : BlS X (.type "list") bLst := by
  intro pins s σ H vs us M m ph ds val Q I rv r hc e g
  unfold bLst at e
  split at e
  · cases e
    obtain ⟨v, rfl, c⟩ := crs1 hc
    obtain ⟨p, xs, rfl, t, rs⟩ := cr_tup c
    exact call_list_of pins s σ H _ us Q I rv ⟨p, xs, rfl, .inr t.sq, g.lst r rs⟩
  · cases e
    obtain ⟨v, rfl, c⟩ := crs1 hc
    obtain ⟨p, xs, rfl, t, rs⟩ := cr_lst c
    exact call_list_of pins s σ H _ us Q I rv ⟨p, xs, rfl, .inl (SqL.of t), g.lst r rs⟩
  · cases e
/-- rows of one sort -/
def bls : List D → Option (List Bool)
  | [] => some []
  | .bl b :: ds => (bls ds).map (b :: ·)
  | _ :: _ => none
def intsD : List D → Option (List Int)
  | [] => some []
  | .int b :: ds => (intsD ds).map (b :: ·)
  | _ :: _ => none
theorem bls_rep {K M H} : ∀ {ds : List D} {bs : List Bool} {xs : List V}, bls ds = some bs → Reps K M H ds xs → xs = bs.map V.bl
  | [], bs, xs, e, r => by cases e; rw [Reps] at r; exact r
  | .bl b :: ds, bs, xs, e, r => by
    rw [Reps] at r
    obtain ⟨v, vs, rfl, r1, r2⟩ := r
    rw [Rep] at r1
    subst r1
    unfold bls at e
    cases h : bls ds with
    | none => rw [h] at e; cases e
    | some cs => rw [h] at e; cases e; rw [bls_rep h r2]; rfl
theorem intsD_rep {K M H} : ∀ {ds : List D} {bs : List Int} {xs : List V}, intsD ds = some bs → Reps K M H ds xs → xs = bs.map V.int
  | [], bs, xs, e, r => by cases e; rw [Reps] at r; exact r
  | .int b :: ds, bs, xs, e, r => by
    rw [Reps] at r
    obtain ⟨v, vs, rfl, r1, r2⟩ := r
    rw [Rep] at r1
    subst r1
    unfold intsD at e
    cases h : intsD ds with
    | none => rw [h] at e; cases e
    | some cs => rw [h] at e; cases e; rw [intsD_rep h r2]; rfl
def bAll : List D → Option Val
  | [.lst ds] => (bls ds).map fun bs => .d (.bl (bs.all id))
  | _ => none
def bAny : List D → Option Val
  | [.lst ds] => (bls ds).map fun bs => .d (.bl (bs.any id))
  | _ => none
theorem b_all (hc : X.calm = true) : BlS X (.builtin "all") bAll := by
  intro pins s σ H vs us M m ph ds val Q I rv r h e g
  unfold bAll at e
  split at e
  · rename_i ds
    cases hb : bls ds with
    | none => rw [hb] at e; cases e
    | some bs =>
      rw [hb] at e; cases e
      obtain ⟨v, rfl, c⟩ := crs1 h
      obtain ⟨p, xs, rfl, t, rs⟩ := cr_lst c
      have ex := bls_rep hb rs
      subst ex
      exact cr_all hc pins s σ H _ us Q I rv ⟨p, bs, rfl, SqL.of t, g.bl r⟩
  · cases e
theorem b_any (hc : X.calm = true) : BlS X (.builtin "any") bAny := by
  intro pins s σ H vs us M m ph ds val Q I rv r h e g
  unfold bAny at e
  split at e
  · rename_i ds
    cases hb : bls ds with
    | none => rw [hb] at e; cases e
    | some bs =>
      rw [hb] at e; cases e
      obtain ⟨v, rfl, c⟩ := crs1 h
      obtain ⟨p, xs, rfl, t, rs⟩ := cr_lst c
      have ex := bls_rep hb rs
      subst ex
      exact cr_any hc pins s σ H _ us Q I rv ⟨p, bs, rfl, SqL.of t, g.bl r⟩
  · cases e
def maxL : List Int → Option Int
  | [] => none
  | n :: ns => some (ns.foldl max n)
def minL : List Int → Option Int
  | [] => none
  | n :: ns => some (ns.foldl min n)
theorem foldmax : ∀ (ns : List Int) (n : Int), (ns.foldl max n = n ∨ ns.foldl max n ∈ ns) ∧ n ≤ ns.foldl max n ∧ ∀ y ∈ ns, y ≤ ns.foldl max n
  | [], n => ⟨.inl rfl, Int.le_refl _, fun _ h => nomatch h⟩
  | k :: ns, n => by
    obtain ⟨h1, h2, h3⟩ := foldmax ns (max n k)
    rw [List.foldl_cons]
    refine ⟨?_, by omega, fun y hy => ?_⟩
    · rcases h1 with h1 | h1
      · rw [h1]
        by_cases hh : n ≤ k
        · right; rw [show max n k = k by omega]; simp
        · left; omega
      · right; exact List.mem_cons_of_mem _ h1
    · rcases List.mem_cons.mp hy with e | hy
      · subst e; omega
      · exact h3 y hy
theorem foldmin : ∀ (ns : List Int) (n : Int), (ns.foldl min n = n ∨ ns.foldl min n ∈ ns) ∧ ns.foldl min n ≤ n ∧ ∀ y ∈ ns, ns.foldl min n ≤ y
  | [], n => ⟨.inl rfl, Int.le_refl _, fun _ h => nomatch h⟩
  | k :: ns, n => by
    obtain ⟨h1, h2, h3⟩ := foldmin ns (min n k)
    rw [List.foldl_cons]
    refine ⟨?_, by omega, fun y hy => ?_⟩
    · rcases h1 with h1 | h1
      · rw [h1]
        by_cases hh : k ≤ n
        · right; rw [show min n k = k by omega]; simp
        · left; omega
      · right; exact List.mem_cons_of_mem _ h1
    · rcases List.mem_cons.mp hy with e | hy
      · subst e; omega
      · exact h3 y hy
theorem maxL_is {ns : List Int} {k m : Int} (h : maxL ns = some k) (h1 : m ∈ ns) (h2 : ∀ y ∈ ns, y ≤ m) : m = k := by
  cases ns with
  | nil => cases h
  | cons n ns =>
    cases h
    obtain ⟨a, b, c⟩ := foldmax ns n
    have l1 : m ≤ ns.foldl max n := by
      rcases List.mem_cons.mp h1 with e | hm
      · subst e; exact b
      · exact c m hm
    have l2 : ns.foldl max n ≤ m := by
      rcases a with e | hm
      · rw [e]; exact h2 n List.mem_cons_self
      · exact h2 _ (List.mem_cons_of_mem _ hm)
    omega
theorem minL_is {ns : List Int} {k m : Int} (h : minL ns = some k) (h1 : m ∈ ns) (h2 : ∀ y ∈ ns, m ≤ y) : m = k := by
  cases ns with
  | nil => cases h
  | cons n ns =>
    cases h
    obtain ⟨a, b, c⟩ := foldmin ns n
    have l1 : ns.foldl min n ≤ m := by
      rcases List.mem_cons.mp h1 with e | hm
      · subst e; exact b
      · exact c m hm
    have l2 : m ≤ ns.foldl min n := by
      rcases a with e | hm
      · rw [e]; exact h2 n List.mem_cons_self
      · exact h2 _ (List.mem_cons_of_mem _ hm)
    omega
def bMax : List D → Option Val
  | [.int i, .int j] => some (.d (.int (if j > i then j else i)))
  | [.lst ds] => (intsD ds).bind fun ns => (maxL ns).map fun k => .d (.int k)
  | _ => none
def bMin : List D → Option Val
  | [.int i, .int j] => some (.d (.int (if j < i then j else i)))
  | [.lst ds] => (intsD ds).bind fun ns => (minL ns).map fun k => .d (.int k)
  | _ => none
theorem b_max (hc : X.calm = true) : BlS X (.builtin "max") bMax := by
  intro pins s σ H vs us M m ph ds val Q I rv r h e g
  unfold bMax at e
  split at e
  · cases e
    obtain ⟨v, v', rfl, c, c'⟩ := crs2 h
    exact call_max2 hc pins s σ H _ us Q I rv ⟨_, _, by rw [cr_int c, cr_int c'], g.int r⟩
  · rename_i ds
    cases hb : intsD ds with
    | none => rw [hb] at e; cases e
    | some ns =>
      rw [hb] at e
      cases hm : maxL ns with
      | none => rw [Option.bind_some, hm] at e; cases e
      | some k =>
        rw [Option.bind_some, hm] at e; cases e
        obtain ⟨v, rfl, c⟩ := crs1 h
        obtain ⟨p, xs, rfl, t, rs⟩ := cr_lst c
        have ex := intsD_rep hb rs
        subst ex
        refine cr_max hc pins s σ H _ us Q I rv ⟨p, ns, rfl, SqL.of t, ?_, fun mm h1 h2 => ?_⟩
        · cases ns with
          | nil => cases hm
          | cons _ _ => simp
        · rw [maxL_is hm h1 h2]; exact g.int r
  · cases e
theorem b_min (hc : X.calm = true) : BlS X (.builtin "min") bMin := by
  intro pins s σ H vs us M m ph ds val Q I rv r h e g
  unfold bMin at e
  split at e
  · cases e
    obtain ⟨v, v', rfl, c, c'⟩ := crs2 h
    exact call_min2 hc pins s σ H _ us Q I rv ⟨_, _, by rw [cr_int c, cr_int c'], g.int r⟩
  · rename_i ds
    cases hb : intsD ds with
    | none => rw [hb] at e; cases e
    | some ns =>
      rw [hb] at e
      cases hm : minL ns with
      | none => rw [Option.bind_some, hm] at e; cases e
      | some k =>
        rw [Option.bind_some, hm] at e; cases e
        obtain ⟨v, rfl, c⟩ := crs1 h
        obtain ⟨p, xs, rfl, t, rs⟩ := cr_lst c
        have ex := intsD_rep hb rs
        subst ex
        refine cr_min hc pins s σ H _ us Q I rv ⟨p, ns, rfl, SqL.of t, ?_, fun mm h1 h2 => ?_⟩
        · cases ns with
          | nil => cases hm
          | cons _ _ => simp
        · rw [minL_is hm h1 h2]; exact g.int r
  · cases e
end
end Pyp

/-! isinstance, sorted(set(..)), xs[::-1]. -/
namespace Pyp
open PySem L2

/-! isinstance -/
inductive Ty where
  | tInt | tBool | tStr | tList | tTuple | tDict
def Ty.nm : Ty → String
  | .tInt => "int" | .tBool => "bool" | .tStr => "str" | .tList => "list" | .tTuple => "tuple" | .tDict => "dict"
def isTy : Ty → D → Bool
  | .tInt, .int _ => true
  | .tInt, .bl _ => true
  | .tBool, .bl _ => true
  | .tStr, .str _ => true
  | .tList, .lst _ => true
  | .tList, .fz _ => true
  | .tTuple, .tup _ => true
  | .tDict, .dic _ _ => true
  | _, _ => false
def tyN : D → String
  | .non => "NoneType" | .bl _ => "bool" | .int _ => "int" | .str _ => "str" | .tup _ => "tuple" | .lst _ => "list" | .dic _ _ => "dict" | .fz _ => "list"
theorem kit_pair : ∀ t ∈ [Ty.tInt, .tBool, .tStr, .tList, .tTuple, .tDict], ∀ d ∈ [D.non, .bl true, .int 0, .str [], .tup [], .lst [], .dic [] []], kitB (tyN d) t.nm = some (isTy t d) := by decide +kernel
theorem kit_isTy (t : Ty) (d : D) : kitB (tyN d) t.nm = some (isTy t d) := by
  have k := fun d h => kit_pair t (by cases t <;> simp) d h
  cases d with
  | non => exact k .non (by simp)
  | bl b => have := k (.bl true) (by simp); cases t <;> exact this
  | int b => have := k (.int 0) (by simp); cases t <;> exact this
  | str b => have := k (.str []) (by simp); cases t <;> exact this
  | tup b => have := k (.tup []) (by simp); cases t <;> exact this
  | lst b => have := k (.lst []) (by simp); cases t <;> exact this
  | dic b c => have := k (.dic [] []) (by simp); cases t <;> exact this
  | fz b => have := k (.lst []) (by simp); cases t <;> exact this
theorem CR.tyX {K M H d v} (h : CR K M H d v) : TyX K H v (.type (tyN d)) := by
  cases d with
  | non => rw [cr_non h]; exact .base .non
  | bl b => rw [cr_bl h]; exact .base (.bl b)
  | int b => rw [cr_int h]; exact .base (.int b)
  | str b => rw [cr_str h]; exact .base (.str _)
  | tup ds =>
    obtain ⟨a, xs, e, t, _⟩ := cr_tup h
    rw [e]
    rcases t with ⟨_, h | ⟨o, h⟩⟩ | ⟨o, its, n, h1, h2, _⟩
    · exact .base (.tup h)
    · exact .fTuple h
    · exact .kTuple h1 h2
  | lst ds => obtain ⟨a, xs, e, t, _⟩ := cr_lst h; rw [e]; exact .base (.lst t)
  | dic ks vs => obtain ⟨a, kvs, e, t, _⟩ := h; rw [e]; exact .base (.dK t)
  | fz ns =>
    obtain ⟨a, e, t⟩ := cr_fz h
    rw [e]
    rcases t with ⟨_, h | ⟨o, h⟩⟩ | ⟨o, its, n, h1, h2, _⟩
    · exact .base (.lst h)
    · exact .base (.frz h)
    · exact .kList h1 h2
section
variable {X : Cx} {W : WX} {a b c e : Expr} {xa xb xc xe : Ex} {pos p p2 p3 p4 : Pos}
def eIsi (ts : List Ty) (x : Ex) : Ex := fun env ph => (x env ph).bind fun v ph1 => match v.cont ph1 with
  | some d => .ok (.d (.bl (ts.any fun t => isTy t d))) ph1
  | none => .bad
theorem s_isi (t : Ty) {n : Str} (hm : X.mg "isinstance" = none) (hm2 : X.mg n = none) (ha : SE X W a xa) (hv2 : bootBuiltins n = some (.type t.nm)) (hg : Gl X "isinstance" := by rfl) (hg2 : Gl X n := by rfl) (hv : bootBuiltins "isinstance" = some (.builtin "isinstance") := by rfl)
    (hn2 : n ≠ "__name__" := by decide) (hd2 : (n == ("__debug__" : Str)) = false := by decide)
    (he : starEach [a, .Name n p2] X.env = (false, eval a X.env) :: starEach [.Name n p2] X.env := by rfl) (he2 : starEach [.Name n p2] X.env = (false, eval (.Name n p2) X.env) :: starEach [] X.env := by rfl) (hpl : (backTo pos (starEach [.Name n p2] X.env)).any (·.1) = false := by rfl) :
    SE X W (.Call (.Name "isinstance" p) [a, .Name n p2] [] pos) (eIsi [t] xa) := ⟨fun M m σ H env ph r er Q q =>
  tW_of (pe_callB call_isi hg hm hv (pa_cons tW_pe (pa_cons (pe_bltn (v := .ty t.nm) hg2 hm2 hv2 rfl hn2 hd2) pa_nil he2) he) (by decide) (by decide) he hpl) (by
  refine ha.bind r er q fun va ph1 v1 H1 fr1 r1 er1 rv1 _ q1 => ?_
  split at q1
  · rename_i d ed
    refine ⟨v1, .ty t.nm, _, _, isTy t d, rfl, .ty _, (rv1.cr r1 ed).tyX, kit_ty (kit_isTy t d), ?_⟩
    have q2 : GE X M m H Q (.d (.bl ([t].any fun t => isTy t d))) ph1 := q1
    have e : ([t].any fun t => isTy t d) = isTy t d := by simp
    rw [e] at q2
    exact (GE.at fr1 r1 q2).bl r1
  · exact q1.elim)⟩
theorem s_isi2 (t t' : Ty) {n n' : Str} {k : Nat} (hm : X.mg "isinstance" = none) (hm2 : X.mg n = none) (hm3 : X.mg n' = none) (ha : SE X W a xa) (hv2 : bootBuiltins n = some (.type t.nm)) (hv3 : bootBuiltins n' = some (.type t'.nm)) (hg : Gl X "isinstance" := by rfl) (hg2 : Gl X n := by rfl) (hg3 : Gl X n' := by rfl) (hv : bootBuiltins "isinstance" = some (.builtin "isinstance") := by rfl)
    (hn2 : n ≠ "__name__" := by decide) (hd2 : (n == ("__debug__" : Str)) = false := by decide) (hn3 : n' ≠ "__name__" := by decide) (hd3 : (n' == ("__debug__" : Str)) = false := by decide)
    (he : starEach [a, .Tuple [.Name n p2, .Name n' p3] k p4] X.env = (false, eval a X.env) :: starEach [.Tuple [.Name n p2, .Name n' p3] k p4] X.env := by rfl) (he2 : starEach [.Tuple [.Name n p2, .Name n' p3] k p4] X.env = (false, eval (.Tuple [.Name n p2, .Name n' p3] k p4) X.env) :: starEach [] X.env := by rfl)
    (he3 : starEach [.Name n p2, .Name n' p3] X.env = (false, eval (.Name n p2) X.env) :: starEach [.Name n' p3] X.env := by rfl) (he4 : starEach [.Name n' p3] X.env = (false, eval (.Name n' p3) X.env) :: starEach [] X.env := by rfl)
    (hpl : (backTo pos (starEach [.Tuple [.Name n p2, .Name n' p3] k p4] X.env)).any (·.1) = false := by rfl) :
    SE X W (.Call (.Name "isinstance" p) [a, .Tuple [.Name n p2, .Name n' p3] k p4] [] pos) (eIsi [t, t'] xa) := ⟨fun M m σ H env ph r er Q q =>
  tW_of (pe_callB call_isiT hg hm hv (pa_cons tW_pe (pa_cons (pe_tup (pa_cons (pe_bltn (v := .ty t.nm) hg2 hm2 hv2 rfl hn2 hd2) (pa_cons (pe_bltn (v := .ty t'.nm) hg3 hm3 hv3 rfl hn3 hd3) pa_nil he4) he3)) pa_nil he2) he) (by decide) (by decide) he hpl) (by
  refine ha.bind r er q fun va ph1 v1 H1 fr1 r1 er1 rv1 _ q1 => ?_
  split at q1
  · rename_i d ed
    refine ⟨show 2 ≤ sizeLine by decide, fun pp hp => ?_⟩
    have q2 : GE X M m H Q (.d (.bl ([t, t'].any fun t => isTy t d))) ph1 := q1
    refine ⟨v1, pp, [.ty t.nm, .ty t'.nm], _, _, [t, t'].any fun t => isTy t d, rfl, upd_same, .cons (.ty _) (.cons (.ty _) .nil), ((rv1.keep r1 (Frame.new hp)).cr (r1.new hp) ed).tyX, ?_, ?_⟩
    · refine kitAny_cons (kit_ty (kit_isTy t d)) (fun e => kitAny_cons (kit_ty (kit_isTy t' d)) (fun e' => ?_) fun e' => ?_) fun e => ?_
      · rw [kitAny_nil]; simp [e, e']
      · simp [e']
      · simp [e]
    · exact q2 _ _ (fr1.trans (Frame.new hp)) (r1.new hp) (by rw [RV, Rep]) RO.d
  · exact q1.elim)⟩
end
end Pyp

/-! set(xs), xs a list of ints: the twin of the kit's rule for a tuple (call_set_tupI). -/
namespace L2
open PySem PySem.Spec PyProof.Rows
section
variable {P : Program} {w : World} {A : Around} {E : Value → Shared → Prop} {s : Shared}
theorem set_of_list {l : Addr} {items : Array Value} (ns : List Int) {Q : Value → Shared → Prop} (hh : A.handled = none) (hl : s.heap.IsList l items) (hit : IntsAre items.toList ns) (hb : ns.length + 1 < scanBound)
    (h : ∀ (h' : Heap) (tk c : Nat), SetR w h' s.heap.objs.size (fun j => decide (j ∈ ns)) c → c ≤ ns.length → (∀ b o, s.heap.get? b = some o → h'.get? b = some o) → Q (.ref s.heap.objs.size) { s with heap := h', toks := tk }) :
    wpAny (model P w) A (call (.type "set") [.ref l]) Q E s := by
  have hisz : items.size = ns.length := by
    have q := IntsAre.length hit
    rw [Array.length_toList] at q
    exact q
  obtain ⟨c, tl, hmro⟩ := F.called_set.mro
  have hmade := F.called_set.made
  have hsub := F.called_set.sub
  refine wpAny_call (codeAny_of_tree ?_)
  show wpAny _ _ (callAny (.type "set") _) _ _ _
  refine wpAny_pure ⟨Code.quiet_builtin _ (by decide +kernel), codeAny_builtin F.entry_type_call ?_⟩
  rw [Around.under_plain (weight_type_call_type "set" [.ref l] []) rfl]
  have h1 := F.called_set.notType
  have h2 := F.called_set.canCreate
  have hct := F.typeCall_set_1 (.ref l)
  repeat (any_goals (first | assumption | wp_step))

  refine codeAny_mono (code_set_led1 (.ref l) (E := E) (Q₁ := fun obj s₁ => obj = .ref s.heap.objs.size ∧ s₁ = { s with heap := s.heap.push { cls := .type "set", dict := none, data := .set #[] 0 (.fresh 0 0 (!w.params.followText "set-order")) } }) ⟨rfl, rfl⟩) fun r s₁ hr => ?_
  cases r with
  | error e => exact hr
  | ok fl =>
    cases fl with
    | ret obj =>
      obtain ⟨rfl, rfl⟩ := hr
      have hS : (s.heap.push { cls := .type "set", dict := none, data := .set #[] 0 (.fresh 0 0 (!w.params.followText "set-order")) }).get? s.heap.objs.size = some { cls := .type "set", dict := none, data := .set #[] 0 (.fresh 0 0 (!w.params.followText "set-order")) } := Heap.get?_push_size _ rfl
      have hT : Shared.TypeIs { s with heap := s.heap.push { cls := .type "set", dict := none, data := .set #[] 0 (.fresh 0 0 (!w.params.followText "set-order")) } } (.ref s.heap.objs.size) "set" := ⟨_, hS, rfl⟩
      have hli := F.called_set.init.lookup
      have hbi := F.called_set.init.bind (.ref s.heap.objs.size)
      repeat (any_goals (first | assumption | wp_step))

      refine codeAny_mono (codeAny_call_builtin (R := wants (fun r s₂ => r = .none ∧ ∃ h' tk c, s₂ = { s with heap := h', toks := tk } ∧ SetR w h' s.heap.objs.size (fun j => decide (j ∈ ns)) c ∧ c ≤ ns.length ∧
          (∀ b o, s.heap.get? b = some o → h'.get? b = some o)) E) F.called_set.init.plain F.entry_set_init (check_set_init_1 hT ?_)) fun r₂ s₂ hr₂ => ?_
      · obtain ⟨ol, hol, hcl, nl, hdl⟩ := hl
        obtain ⟨ocls, odict, odata, oslots⟩ := ol
        simp only at hcl hdl
        subst hcl; subst hdl
        have hol' : (s.heap.push { cls := .type "set", dict := none, data := .set #[] 0 (.fresh 0 0 (!w.params.followText "set-order")) }).get? l = some { cls := .type "list", dict := odict, data := .seq items nl, slots := oslots } := Heap.get?_push_of_some _ hol
        have hsls := F.sub_list_set
        have hslf := F.sub_list_frozenset
        have hne : (Value.type "list" == Value.type "dict") = false := by decide
        have hl1 : (s.heap.push { cls := .type "set", dict := none, data := .set #[] 0 (.fresh 0 0 (!w.params.followText "set-order")) }).IsList l items := ⟨_, hol', rfl, nl, rfl⟩
        unfold Builtin.«set.__init__» noKeywords Builtin.Frozenset.updateFrom
        generalize hPI : pyIter = PI
        wp_walk
        subst hPI

        refine wpAny_pyIter_list hl1 ?_
        refine wpAny_bind (wpAny_runValue ?_)
        have hlS : l < s.heap.objs.size := Heap.lt_size hol
        have hh3 : A.in1.in1.in1.handled = none := by simp [hh]
        have hz1 : (s.heap.push { cls := .type "set", dict := none, data := .set #[] 0 (.fresh 0 0 (!w.params.followText "set-order")) }).objs.size = s.heap.objs.size + 1 := Heap.size_push ..
        have hneI : l ≠ (s.heap.push { cls := .type "set", dict := none, data := .set #[] 0 (.fresh 0 0 (!w.params.followText "set-order")) }).objs.size := by
          rw [Heap.size_push]; exact Nat.ne_of_lt (Nat.lt_succ_of_lt hlS)
        have hSf : s.heap.objs.size ∉ [(s.heap.push { cls := .type "set", dict := none, data := .set #[] 0 (.fresh 0 0 (!w.params.followText "set-order")) }).objs.size, l] := by
          rw [Heap.size_push]; simp only [List.mem_cons, List.mem_singleton, List.not_mem_nil, or_false, not_or]
          exact ⟨Nat.ne_of_lt (Nat.lt_succ_self _), Nat.ne_of_gt hlS⟩
        have hval : ∀ (i : Nat) (v : Value), items[i]? = some v → ∃ k t, ns[i]? = some k ∧ v = .int k t := fun i v hv => by
          have hi : i < ns.length := by rw [← hisz]; exact (Array.getElem?_eq_some_iff.mp hv).1
          obtain ⟨t, e⟩ := PyProof.Rows.IntsAre.int_at hit i v (by rw [Array.getElem?_toList]; exact hv)
          refine ⟨ns[i], t, List.getElem?_eq_getElem hi, ?_⟩
          rw [e, List.getD_eq_getElem?_getD, List.getElem?_eq_getElem hi] <;> rfl
        refine set_update_ints ((Walks.list hh3 _ l hneI items).toS) s.heap.objs.size
          hSf ns hisz hb hval (items.size - 0) 0 _ (by omega) (Nat.zero_le _)
          ⟨⟨_, Heap.get?_push_size _ rfl, rfl, rfl⟩, (hl1.push _)⟩ ?hS0 ?hR
        case hS0 =>
          have hget : ((s.heap.push { cls := .type "set", dict := none, data := .set #[] 0 (.fresh 0 0 (!w.params.followText "set-order")) }).push { cls := .type "list_iterator", data := .fields #[.ref l, .int 0 0] }).get? s.heap.objs.size
              = some { cls := .type "set", dict := none, data := .set #[] 0 (.fresh 0 0 (!w.params.followText "set-order")) } := Heap.get?_push_of_some _ hS
          exact ⟨0, Nat.le_refl 0, setR_new_at hget⟩
        case hR =>
          intro s' c' hm hc' hS'
          obtain ⟨h', g2, d', tk', os'⟩ := s'
          have eg : g2 = s.gens := hm.gens
          have ed : d' = s.drawn := hm.drawn
          have eo : os' = s.os := hm.os
          subst eg; subst ed; subst eo
          show wpAny _ _ _ _ _ _
          refine wpAny_pure ?_
          show wpAny _ _ (ret Value.none) _ _ _
          rw [hisz] at hc'
          refine wpAny_pure ⟨rfl, h', tk', c', rfl, hS', hc', fun b o e => ?_⟩
          have hb0 : b < s.heap.objs.size := Heap.lt_size e
          have hb1 : b ≠ s.heap.objs.size := Nat.ne_of_lt hb0
          have hb2 : b ≠ (s.heap.push { cls := .type "set", dict := none, data := .set #[] 0 (.fresh 0 0 (!w.params.followText "set-order")) }).objs.size := by
            rw [Heap.size_push]; exact Nat.ne_of_lt (Nat.lt_succ_of_lt hb0)
          exact hm.heap b o (by simp only [List.mem_cons, List.mem_singleton, List.not_mem_nil, or_false, not_or]; exact ⟨hb1, hb2⟩) (Heap.get?_push_of_some _ (Heap.get?_push_of_some _ e))

      · cases r₂ with
        | error e => exact hr₂
        | ok fl₂ =>
          cases fl₂ with
          | ret r =>
            obtain ⟨rfl, h', tk, c', rfl, hS', hc', hk'⟩ := hr₂
            repeat (any_goals (first | assumption | wp_step))
            exact h _ _ _ hS' hc' hk'
          | _ => exact hr₂.elim
    | _ => exact hr.elim
end
end L2

/-! sorted(set(..)), xs[::-1]. -/
namespace Pyp
open PySem PySem.Spec PyProof.Rows L2

/-! sorted(set(t)), t a tuple of ints -/
def insU (k : Int) : List Int → List Int
  | [] => [k]
  | x :: xs => if k < x then k :: x :: xs else if k = x then x :: xs else x :: insU k xs
def sortU (ns : List Int) : List Int := ns.foldr insU []
theorem insU_mem (k j : Int) : ∀ xs, j ∈ insU k xs ↔ j = k ∨ j ∈ xs
  | [] => by simp [insU]
  | x :: xs => by
    unfold insU
    split
    · simp
    · split
      · rename_i h; subst h; simp
      · rw [List.mem_cons, insU_mem k j xs, List.mem_cons]
        constructor
        · rintro (h | h | h)
          · exact .inr (.inl h)
          · exact .inl h
          · exact .inr (.inr h)
        · rintro (h | h | h)
          · exact .inr (.inl h)
          · exact .inl h
          · exact .inr (.inr h)
theorem insU_sorted (k : Int) : ∀ xs : List Int, xs.Pairwise (· < ·) → (insU k xs).Pairwise (· < ·)
  | [], _ => by simp [insU]
  | x :: xs, h => by
    obtain ⟨h1, h2⟩ := List.pairwise_cons.mp h
    unfold insU
    split
    · rename_i hk
      refine List.pairwise_cons.mpr ⟨fun y hy => ?_, h⟩
      rcases List.mem_cons.mp hy with e | hy
      · subst e; exact hk
      · have := h1 y hy; omega
    · split
      · exact h
      · refine List.pairwise_cons.mpr ⟨fun y hy => ?_, insU_sorted k xs h2⟩
        rcases (insU_mem k y xs).mp hy with e | hy
        · subst e; omega
        · exact h1 y hy
theorem sortU_mem (j : Int) : ∀ ns, j ∈ sortU ns ↔ j ∈ ns
  | [] => by simp [sortU]
  | n :: ns => by
    show j ∈ insU n (sortU ns) ↔ _
    rw [insU_mem, sortU_mem j ns, List.mem_cons]
theorem sortU_sorted : ∀ ns, (sortU ns).Pairwise (· < ·)
  | [] => .nil
  | n :: ns => insU_sorted n _ (sortU_sorted ns)
theorem strict_eq : ∀ {xs ys : List Int}, xs.Pairwise (· < ·) → ys.Pairwise (· < ·) → (∀ k, k ∈ xs ↔ k ∈ ys) → xs = ys
  | [], [], _, _, _ => rfl
  | [], y :: ys, _, _, h => absurd ((h y).mpr List.mem_cons_self) (by simp)
  | x :: xs, [], _, _, h => absurd ((h x).mp List.mem_cons_self) (by simp)
  | x :: xs, y :: ys, hx, hy, h => by
    obtain ⟨a1, a2⟩ := List.pairwise_cons.mp hx
    obtain ⟨b1, b2⟩ := List.pairwise_cons.mp hy
    have e : x = y := by
      have p := (h x).mp List.mem_cons_self
      have q := (h y).mpr List.mem_cons_self
      rcases List.mem_cons.mp p with e | p
      · exact e
      · rcases List.mem_cons.mp q with e | q
        · exact e.symm
        · have := b1 x p; have := a1 y q; omega
    subst e
    rw [strict_eq a2 b2 fun k => ?_]
    constructor
    · intro hk
      rcases List.mem_cons.mp ((h k).mp (List.mem_cons_of_mem _ hk)) with e | z
      · subst e; have := a1 k hk; omega
      · exact z
    · intro hk
      rcases List.mem_cons.mp ((h k).mpr (List.mem_cons_of_mem _ hk)) with e | z
      · subst e; have := b1 k hk; omega
      · exact z
section
variable {X : Cx} {W : WX} {a b c e : Expr} {xa xb xc xe : Ex} {pos p p2 p3 p4 pos2 : Pos}
theorem cr_setI (hc : X.calm = true) : CallR X (.type "set") (fun vs H Q => ∃ (a : Addr) (ns : List Int), vs = [V.ref a] ∧ (SqT X.K H a (ns.map V.int) ∨ SqL X.K H a (ns.map V.int)) ∧ ns.length < 64 ∧
  ∀ p n, H p = none → n ≤ ns.length → Q (.ref p) (upd H p (SetO X.w p (fun j => decide (j ∈ ns)) n))) := by
  intro pins s σ H vs us Q I r h
  obtain ⟨a, ns, rfl, hs, h64, q⟩ := h
  rw [Vals.ref1 r]
  rcases hs with hs | hs
  · obtain ⟨its, rv, pl, hz⟩ := I.tuple hs
    refine call_set_tupI ns (I.ok.hd hc) (by obtain ⟨o, h1, h2, n, h3⟩ := pl; exact ⟨o, h1, h2, n, h3⟩) (by simpa using rv.ints) (by unfold scanBound; omega) fun h' tk c R hcn hk => ?_
    exact ⟨.ref _, upd H s.heap.objs.size (SetO X.w s.heap.objs.size (fun j => decide (j ∈ ns)) c), I.laid (t' := tk) hk (Nat.le_refl _) (setO_new R), rfl, q _ c (I.hok.fresh (Nat.le_refl _)) hcn⟩
  · obtain ⟨its, rv, pl, hz⟩ := I.list hs
    refine set_of_list ns (I.ok.hd hc) pl.isList (by simpa using rv.ints) (by unfold scanBound; omega) fun h' tk c R hcn hk => ?_
    exact ⟨.ref _, upd H s.heap.objs.size (SetO X.w s.heap.objs.size (fun j => decide (j ∈ ns)) c), I.laid (t' := tk) hk (Nat.le_refl _) (setO_new R), rfl, q _ c (I.hok.fresh (Nat.le_refl _)) hcn⟩
/-- sorted(set(a)) -/
def sortUE (ds : List D) : Option Val := match intsD ds with
  | some ns => if ns.length < 64 then some (.own (.lst ((sortU ns).map .int))) else none
  | none => none
def dSortU : D → Option Val
  | .tup ds => sortUE ds
  | .lst ds => sortUE ds
  | _ => none
def eSortU (x : Ex) : Ex := fun env ph => (x env ph).bind fun v ph1 => match v.cont ph1 with
  | some d => Res.of (dSortU d) ph1
  | none => .bad
theorem s_sortU (hc : X.calm = true) (hm : X.mg "sorted" = none) (hm2 : X.mg "set" = none) (ha : SE X W a xa) (hg : Gl X "sorted" := by rfl) (hg2 : Gl X "set" := by rfl) (hv : bootBuiltins "sorted" = some (.builtin "sorted") := by rfl) (hv2 : bootBuiltins "set" = some (.type "set") := by rfl)
    (he : starEach [a] X.env = (false, eval a X.env) :: starEach [] X.env := by rfl) (hpl : (backTo pos2 (starEach [] X.env)).any (·.1) = false := by rfl)
    (he2 : starEach [.Call (.Name "set" p2) [a] [] pos2] X.env = (false, eval (.Call (.Name "set" p2) [a] [] pos2) X.env) :: starEach [] X.env := by rfl) (hpl2 : (backTo pos (starEach [] X.env)).any (·.1) = false := by rfl) :
    SE X W (.Call (.Name "sorted" p) [.Call (.Name "set" p2) [a] [] pos2] [] pos) (eSortU xa) := ⟨fun M m σ H env ph r er Q q =>
  tW_of (pe_callB (cr_sortedSet hc) hg hm hv (pa_cons (pe_callTy (cr_setI hc) hg2 hm2 hv2 (pa_cons tW_pe pa_nil he) (by decide) (by decide) he hpl) pa_nil he2) (by decide) (by decide) he2 hpl2) (by
  refine ha.bind r er q fun va ph1 v1 H1 fr1 r1 er1 rv1 _ q1 => ?_
  split at q1
  · rename_i d ed
    obtain ⟨val, ev, g⟩ := Post.of (Q := Q) (M := M) (m := m) (H := H1) (X := X) (W := W) (σ := σ) (o := dSortU d) (ph := ph1) (Post.mono (fun _ _ g => GE.at fr1 r1 g) q1)
    have fin : ∀ (ds : List D) (a : Addr) (xs : List V), v1 = .ref a → (SqT X.K H1 a xs ∨ SqL X.K H1 a xs) → Reps X.K M H1 ds xs → sortUE ds = some val → ∃ (a : Addr) (ns : List Int), [v1] = [V.ref a] ∧ (SqT X.K H1 a (ns.map V.int) ∨ SqL X.K H1 a (ns.map V.int)) ∧ ns.length < 64 ∧
        ∀ p n, H1 p = none → n ≤ ns.length → rSortedSet X.w [V.ref p] (upd H1 p (SetO X.w p (fun j => decide (j ∈ ns)) n)) Q := by
      intro ds a xs ev1 t rs ev
      unfold sortUE at ev
      split at ev
      · rename_i ns hi
        split at ev
        · rename_i h64
          cases ev
          have ex := intsD_rep hi rs
          subst ex
          refine ⟨a, ns, by rw [ev1], t, h64, fun pp n hp hn => ?_⟩
          refine ⟨pp, _, n, rfl, upd_same, by omega, fun ns' p3 hpw hmem hlen hp3 => ?_⟩
          have e : ns' = sortU ns := strict_eq hpw (sortU_sorted ns) fun k => by rw [hmem k, sortU_mem]; simp
          subst e
          have r2 := r1.new (o := SetO X.w pp (fun j => decide (j ∈ ns)) n) hp
          have f2 : Frame m H1 (upd H1 pp (SetO X.w pp (fun j => decide (j ∈ ns)) n)) := Frame.new hp
          exact GE.lst (ph := ph1) (GE.at f2 r2 g) r2 (reps_ints _) p3 hp3
        · cases ev
      · cases ev
    cases d with
    | tup ds =>
      obtain ⟨a, xs, e1, t, rs⟩ := cr_tup (rv1.cr r1 ed)
      exact fin ds a xs e1 (.inl t.sq) rs ev
    | lst ds =>
      obtain ⟨a, xs, e1, t, rs⟩ := cr_lst (rv1.cr r1 ed)
      exact fin ds a xs e1 (.inr (SqL.of t)) rs ev
    | _ => cases ev
  · exact q1.elim)⟩

/-! xs[::-1] -/
theorem sliceApplied_rev {prog : Program} {w : World} {A : Around} {E : Value → Shared → Prop} {s : Shared} {sl : Addr} {vs : Value} {n : Nat} {Q : Int × Int × Nat → Shared → Prop} (hs : s.heap.IsSliceOf sl .none .none vs) (ps : IsPart vs (some (-1)))
    (h : Q ((n : Int) - 1, -1, n) s) : wpAny (model prog w) A (Builtin.Slice.sliceApplied (.ref sl) (pure (n : Int))) Q E s := by
  obtain ⟨os, hos, hcs, hds⟩ := id hs
  unfold Builtin.Slice.sliceApplied Builtin.Slice.sliceFields
  refine wpAny_bind (wpAny_bind (wpAny_field hos hds (x := .none) rfl (wpAny_bind (wpAny_field hos hds (x := .none) rfl (wpAny_bind (wpAny_field hos hds (x := vs) rfl (wpAny_pure ?_)))))))
  refine wpAny_bind (HT.slicePart_ ps ?_)
  show wpAny _ _ (if ((-1 : Int) == 0) = true then _ else _) _ _ s
  rw [if_neg (by decide)]
  refine wpAny_bind (slicePart_none (wpAny_bind (slicePart_none (wpAny_bind (wpAny_pure ?_)))))
  show wpAny _ _ (match Builtin.Slice.sliceAdjust none none (-1) (n : Int) with | (lo, hi) => pure (lo, (-1 : Int), Builtin.Slice.slicePlaces lo hi (-1))) _ _ s
  have e : Builtin.Slice.sliceAdjust none none (-1) (n : Int) = ((n : Int) - 1, -1) := rfl
  rw [e]
  have e2 : Builtin.Slice.slicePlaces ((n : Int) - 1) (-1) (-1) = n := by
    unfold Builtin.Slice.slicePlaces
    rw [if_neg (by decide)]
    by_cases h : (n : Int) - 1 > -1
    · rw [if_pos h, show (-(-1) : Int) = 1 by decide, Int.ediv_one]; omega
    · rw [if_neg h]; omega
  show wpAny _ _ (pure ((n : Int) - 1, (-1 : Int), Builtin.Slice.slicePlaces ((n : Int) - 1) (-1) (-1))) _ _ s
  rw [e2]
  exact wpAny_pure h
theorem fm_congr {α β : Type} {f g : α → Option β} : ∀ {l : List α}, (∀ a ∈ l, f a = g a) → l.filterMap f = l.filterMap g
  | [], _ => rfl
  | a :: l, h => by
    rw [List.filterMap_cons, List.filterMap_cons, h a List.mem_cons_self, fm_congr fun b hb => h b (List.mem_cons_of_mem _ hb)]
theorem pick_rev (xs : Array Value) : ((List.range xs.size).filterMap fun (m : Nat) => xs[(((xs.size : Int) - 1) + (m : Int) * -1).toNat]?).toArray = xs.toList.reverse.toArray := by
  rw [← PySem.W.krv_pick]
  unfold slicePick
  rw [PySem.W.krv_bounds]
  show _ = ((sliceRange ((xs.size : Int) - 1) (-1) (-1)).filterMap (xs[·]?)).toArray
  rw [PySem.W.krv_sliceRange, List.filterMap_map]
  congr 1
  apply fm_congr
  intro m hm
  have := List.mem_range.mp hm
  have e : (((xs.size : Int) - 1) + (m : Int) * -1).toNat = xs.size - 1 - m := by omega
  rw [e]
  rfl
theorem getItem_tuple_rev {prog : Program} {w : World} {A : Around} {E : Value → Shared → Prop} {s : Shared} {t sl : Addr} {items : Array Value} {vs : Value} {Q : Value → Shared → Prop} (ht : IsTup s.heap t items) (hs : s.heap.IsSliceOf sl .none .none vs) (ps : IsPart vs (some (-1)))
    (h : Q (.ref s.heap.objs.size) { s with heap := s.heap.push { cls := .type "tuple", data := .seq items.toList.reverse.toArray } })
    (hsz : items.size ≤ sizeLine) : wpAny (model prog w) A (getItem (.ref t) (.ref sl)) Q E s := by
  have htake : sizeOk (.seq items.toList.reverse.toArray) := by
    show items.toList.reverse.toArray.size ≤ sizeLine
    simpa using hsz
  obtain ⟨os, hos, hcs, hds⟩ := id hs
  have hTs : s.TypeIs (.ref sl) "slice" := ⟨os, hos, hcs⟩
  unfold getItem
  try with_reducible refine wpAny_holding ?_
  first | refine wpAny_bind (wpAny_pure ?_) | skip
  refine wpAny_bind (wpAny_sequenceKey ht.typeIs (by decide) ?_)
  refine wpAny_bind (wpAny_callSpecial?_slot (name := Str.ofString "__getitem__") ht.typeIs slot_tuple_getitem
    (wpAny_call_entry slot_tuple_getitem ht.typeIs entry_tuple_getitem ?_ (args_tuple_getitem _ _)))
  show wpAny _ _ (Builtin.Tuple.tupleItemsOf (.ref t) >>= _) _ _ s
  refine wpAny_bind (tupleItemsOf_ ht ?_)
  refine wpAny_bind (wpAny_typeOf hTs ?_)
  rw [if_pos (by decide)]
  refine wpAny_bind (sliceApplied_rev hs ps ?_)
  have hno : ¬ ((((items.size : Int) - 1) == 0 && (-1 : Int) == 1 && items.size == items.size) = true) := by simp
  show wpAny _ _ (if (((items.size : Int) - 1) == 0 && (-1 : Int) == 1 && items.size == items.size) = true then _ else _) _ _ s
  rw [if_neg hno, pick_rev]
  first
    | exact wpAny_bind (m := Builtin.Tuple.tupleExact _) (wpAny_newObj_type (wpAny_pure ⟨_, rfl, wpAny_pure h⟩) htake)
    | exact wpAny_bind (m := Builtin.Tuple.tupleExact _) (wpAny_newObj_type (wpAny_bind (wpAny_pure (wpAny_pure ⟨_, rfl, wpAny_pure h⟩))) htake)
    | exact wpAny_bind (wpAny_bind (m := Builtin.Tuple.tupleExact _) (wpAny_newObj_type (wpAny_pure (wpAny_pure ⟨_, rfl, wpAny_pure h⟩)) htake))
    | exact wpAny_bind (wpAny_bind (m := Builtin.Tuple.tupleExact _) (wpAny_newObj_type (wpAny_pure ⟨_, rfl, wpAny_pure h⟩) htake))
/-- a[::-1] -/
def tRevS (K : PySem.W.Frag) (te : TE) : TE := fun σ H Q => te σ H fun x H1 => ∃ a xs, x = .ref a ∧ ((SqL K H1 a xs ∧ ∀ p, H1 p = none → Q (.ref p) (upd H1 p (.lst xs.reverse))) ∨ (SqT K H1 a xs ∧ ∀ p, H1 p = none → Q (.ref p) (upd H1 p (.tup xs.reverse))))
theorem pe_revS {e : Expr} {te : TE} {k : Nat} (he : PE X e te) : PE X (.Subscript e (.Slice none none (some (.UnaryOp .USub (.Constant (.int 1) k p) p2)) p3) pos) (tRevS X.K te) := by
  refine ⟨fun pins s σ H Q I h => ?_⟩
  refine Subscript_ (thn (he.run pins s σ H _ I h) fun v s1 ⟨x, H1, I1, r1, q1⟩ => ?_)
  obtain ⟨a, xs, ex, q⟩ := q1
  subst ex
  cases r1
  have hst : PO X (some (.UnaryOp .USub (.Constant (.int 1) k p) p2)) (tPart (tUn (rU fun i => .int (-i)) (tC (.int 1)))) := po_some (pe_un un_neg pe_int)
  refine wpAny_Slice (thn (po_none.run pins s1 σ H1 (fun o H2 => o = none ∧ H2 = H1) I1 ⟨rfl, rfl⟩) fun vl s2 ⟨l, H2, I2, pl, el, e2⟩ => ?_)
  subst el e2
  refine thn (po_none.run pins s2 σ H2 (fun o H3 => o = none ∧ H3 = H2) I2 ⟨rfl, rfl⟩) fun vu s3 ⟨u, H3, I3, pu, eu, e3⟩ => ?_
  subst eu e3
  refine thn (hst.run pins s3 σ H3 (fun o H4 => o = some (-1) ∧ H4 = H3) I3 ⟨1, rfl, -1, rfl, rfl, rfl⟩) fun vs s4 ⟨o, H4, I4, ps, eo, e4⟩ => ?_
  subst eo e4
  have I5 : Inv X pins σ H4 { s4 with heap := s4.heap.push { cls := .type "slice", data := .fields #[vl, vu, vs] } } := I4.kept (t' := s4.toks) fun b ob q => Heap.get?_push_of_some _ q
  show wpAny (model X.prog X.w) X.A (subscriptTail e (.Slice none none (some (.UnaryOp .USub (.Constant (.int 1) k p) p2)) p3) (.ref a) (.ref s4.heap.objs.size)) (EP X pins σ Q) X.xe { s4 with heap := s4.heap.push { cls := .type "slice", data := .fields #[vl, vu, vs] } }
  rcases q with ⟨hx, q⟩ | ⟨hx, q⟩
  · obtain ⟨its, r, ht, hz⟩ := I5.list hx
    have hlen := r.length
    refine tail_any (ops := [.ref a, .ref s4.heap.objs.size]) ht.isList.typeIs (PySem.slot_list_getitem.lookup) ?_ (by with_unfolding_all rfl)
    refine wpAny_getItem_list_slice ht.isList (Heap.IsSliceOf.new _ vl vu vs) pl pu ps (by decide) ?_ (by rw [List.size_toArray]; omega)
    rw [PySem.W.krv_pick]
    refine ⟨.ref _, _, I5.laid (t' := s4.toks) (o := .lst xs.reverse) (fun b ob q => Heap.get?_push_of_some _ q) (Nat.le_refl _) ?_, rfl, q _ (I5.hok.fresh (Nat.le_refl _))⟩
    exact ⟨by rw [List.length_reverse]; exact hz, _, 0, r.reverse, Heap.get?_push_size _ rfl⟩
  · obtain ⟨its, r, ht, hz⟩ := I5.tuple hx
    have hlen := r.length
    cases pl
    cases pu
    refine tail_any (ops := [.ref a, .ref s4.heap.objs.size]) ht.typeIs (slot_tuple_getitem.lookup) ?_ (by with_unfolding_all rfl)
    refine getItem_tuple_rev ht (Heap.IsSliceOf.new _ .none .none vs) ps ?_ (by rw [List.size_toArray]; omega)
    refine ⟨.ref _, _, I5.laid (t' := s4.toks) (o := .tup xs.reverse) (fun b ob q => Heap.get?_push_of_some _ q) (Nat.le_refl _) ?_, rfl, q _ (I5.hok.fresh (Nat.le_refl _))⟩
    exact ⟨by rw [List.length_reverse]; exact hz, _, r.reverse, IsTup.new _ _⟩
def dRev : D → Option Val
  | .tup ds => some (.d (.tup ds.reverse))
  | .lst ds => some (.own (.lst ds.reverse))
  | _ => none
theorem Reps.reverse {K : PySem.W.Frag} {M : Addr → Prop} {H : Hp} : ∀ {ds : List D} {xs : List V}, Reps K M H ds xs → Reps K M H ds.reverse xs.reverse
  | [], xs, h => by rw [Reps] at h; subst h; exact Reps.nil
  | d :: ds, xs, h => by
    rw [Reps] at h
    obtain ⟨v, vs, rfl, r, rs⟩ := h
    rw [List.reverse_cons, List.reverse_cons]
    exact (Reps.reverse rs).append (.cons r Reps.nil)
def eD (f : D → Option Val) (x : Ex) : Ex := fun env ph => (x env ph).bind fun v ph1 => match v.cont ph1 with
  | some d => Res.of (f d) ph1
  | none => .bad
theorem s_rev {k : Nat} (ha : SE X W a xa) : SE X W (.Subscript a (.Slice none none (some (.UnaryOp .USub (.Constant (.int 1) k p) p2)) p3) pos) (eD dRev xa) := ⟨fun M m σ H env ph r er Q q => tW_of (pe_revS tW_pe) (by
  refine ha.bind r er q fun va ph1 v1 H1 fr1 r1 er1 rv1 _ q1 => ?_
  split at q1
  · rename_i d ed
    obtain ⟨val, ev, g⟩ := Post.of (Q := Q) (M := M) (m := m) (H := H1) (X := X) (W := W) (σ := σ) (o := dRev d) (ph := ph1) (Post.mono (fun _ _ g => GE.at fr1 r1 g) q1)
    have c := rv1.cr r1 ed
    cases d with
    | tup ds =>
      cases ev
      obtain ⟨a, xs, rfl, t, rs⟩ := cr_tup c
      exact ⟨a, xs, rfl, .inr ⟨t.sq, g.tup r1 rs.reverse⟩⟩
    | lst ds =>
      cases ev
      obtain ⟨a, xs, rfl, t, rs⟩ := cr_lst c
      exact ⟨a, xs, rfl, .inl ⟨SqL.of t, g.lst r1 rs.reverse⟩⟩
    | _ => cases ev
  · exact q1.elim)⟩
end
end Pyp

/-! Statements that write: methods, stores, cells; starred targets. -/
namespace Pyp
open PySem PySem.Spec PyProof.Rows L2

section
variable {K : PySem.W.Frag} {M0 M : Addr → Prop} {H0 H H' : Hp} {hd : V → D → Prop} {m : List Addr} {σ σ' : L2.St} {env env' : Env} {ph ph' : PH} {i n : Nat} {d : D} {v : V} {a : Addr}
theorem nd_ix {α : Type} : ∀ {l : List α} {i j : Nat} {a : α}, l.Nodup → l[i]? = some a → l[j]? = some a → i = j
  | [], i, j, a, _, h, _ => by simp at h
  | x :: l, 0, 0, a, _, _, _ => rfl
  | x :: l, 0, j + 1, a, n, h, h' => by
    simp at h h'
    subst h
    exact absurd (List.mem_of_getElem? h') (List.nodup_cons.mp n).1
  | x :: l, i + 1, 0, a, n, h, h' => by
    simp at h h'
    subst h'
    exact absurd (List.mem_of_getElem? h) (List.nodup_cons.mp n).1
  | x :: l, i + 1, j + 1, a, n, h, h' => by
    exact congrArg (· + 1) (nd_ix (l := l) (i := i) (j := j) (List.nodup_cons.mp n).2 (by simpa using h) (by simpa using h'))
/-- a cell is written -/
theorem Rel.mut (r : Rel K M m H ph) {y : D} (e : m[n]? = some a) (f : ∀ b o, b ≠ a → H b = some o → H' b = some o) (c : Cont K M H' a y) : Rel K M m H' (ph.set n y) := by
  have am := List.mem_of_getElem? e
  have ma := r.sub a am
  have kp : KeepP M H H' := fun b o h nb => f b o (fun q => nb (q ▸ ma)) h
  refine ⟨by rw [List.length_set]; exact r.len, r.nd, r.sub, fun b z => ?_, fun j b d e1 e2 => ?_⟩
  · by_cases hb : b = a
    · subst hb; exact c.some
    · obtain ⟨o, ho⟩ := r.dom b z
      exact ⟨o, f b o hb ho⟩
  · by_cases hj : n = j
    · subst hj
      rw [e] at e1; cases e1
      have hl : n < ph.length := by rw [← r.len]; exact (List.getElem?_eq_some_iff.mp e).1
      rw [List.getElem?_set_self hl] at e2; cases e2
      exact c
    · rw [List.getElem?_set_ne hj] at e2
      refine (r.cont j b d e1 e2).keep kp fun o ho => f b o (fun q => ?_) ho
      subst q
      obtain ⟨h1, h1'⟩ := List.getElem?_eq_some_iff.mp e
      obtain ⟨h2, h2'⟩ := List.getElem?_eq_some_iff.mp e1
      exact hj (nd_ix r.nd e e1)
theorem StR.mutRef (s : StR K M0 H0 hd M m σ H env ph) {y : D} (e : m[n]? = some a) (f : ∀ b o, b ≠ a → H b = some o → H' b = some o) (c : Cont K M H' a y) : StR K M0 H0 hd M m σ H' env (ph.set n y) := by
  have am := List.mem_of_getElem? e
  have fr : Frame m H H' := fun b o h nb => f b o (fun q => nb (q ▸ am)) h
  exact ⟨s.rel.mut e f c, s.er.keep s.rel fr, s.len, s.sub, s.mem, s.fr.trans fr, s.own, s.sep, fun v d h => Rep.keep (fr.keep s.rel) d v (s.held v d h)⟩
end

section
variable {X : Cx} {W : WX} {a b c e : Expr} {xa xb xc xe : Ex} {pos p p2 p3 p4 apos cpos : Pos} {es : List Expr} {xs : Ax}

/-! xs.m(..) as a statement -/
def MuS (X : Cx) (id : String) (f : List D → List D → Option (List D)) : Prop := ∀ pins s σ H a xs vs v us M ds es ds' Q, Inv X pins σ H s → RelV (.ref a) v → Vals vs us → H a = some (.lst xs) → Reps X.K M H ds xs → Reps X.K M H es vs → f ds es = some ds' →
  (∀ w ys, Reps X.K M H ds' ys → Q w (upd H a (.lst ys))) → wpAny (model X.prog X.w) X.A (call (.builtin id) (v :: us)) (EP X pins σ Q) X.xe s
def rWM (X : Cx) (id : String) : V → List V → Hp → VK → Prop := fun x xs H Q => ∀ pins s σ v us, Inv X pins σ H s → RelV x v → Vals xs us → wpAny (model X.prog X.w) X.A (call (.builtin id) (v :: us)) (EP X pins σ Q) X.xe s
theorem rWM_mt {id : String} : MtR X id (rWM X id) := fun pins s σ H x xs v us Q I rx rxs h => h pins s σ v us I rx rxs
def sMut (i : Nat) (f : List D → List D → Option (List D)) (xs : Ax) : Sx := fun env ph => match env[i]? with
  | some (some (.own (.lst ds))) => (xs env ph).bindS env fun vs ph1 => match dats vs with
    | some es => match f ds es with
      | some ds' => .nx (env.set i (some (.own (.lst ds')))) ph1
      | none => .bad
    | none => .bad
  | some (some (.ref n)) => match ph[n]? with
    | some (.lst _) => (xs env ph).bindS env fun vs ph1 => match ph1[n]?, dats vs with
      | some (.lst ds), some es => match f ds es with
        | some ds' => .nx env (ph1.set n (.lst ds'))
        | none => .bad
      | _, _ => .bad
    | _ => .bad
  | _ => .bad
theorem upd_keep {M : Addr → Prop} {H : Hp} {a : Addr} {o : HO} (h : M a) : KeepP M H (upd H a o) := fun b u e n => by
  have hb : b ≠ a := fun q => n (by rw [q]; exact h)
  rw [upd_ne hb]; exact e
theorem mut_core {id : String} {f : List D → List D → Option (List D)} (hm : MuS X id f) (i : Nat) {n : Str} (hN : X.N[i]? = some n) (h : SA X W es xs) {M0 H0 hd M m σ H env ph} (s : StR X.K M0 H0 hd M m σ H env ph) {D : Ends} (q : PostS X W M0 H0 hd m D (sMut i f xs env ph)) :
    ∃ w, σ[i]? = some (some w) ∧ tyV X.K "list" w H ∧ tWA X es σ H fun vs H2 => rWM X id w vs H2 fun _ H3 => D.nx σ H3 := by
  unfold sMut at q
  split at q
  · rename_i ds e
    obtain ⟨v, e1, a, rfl, ma, am, xsv, hH, rs⟩ := s.er.2 i _ e
    refine ⟨_, e1, .inl ⟨rfl, xsv, SqL.of hH⟩, h.bindS s q fun vals ph1 vs H1 fr s1 rv q1 => ?_⟩
    split at q1
    · rename_i es' ed
      split at q1
      · rename_i ds' ef
        intro pins st σ' v' us I rx rxs
        have hH1 := fr a _ hH am
        refine hm pins st σ' H1 a xsv vs v' us M ds es' ds' _ I rx rxs hH1 (Reps.keep (fr.keep s.rel) _ _ rs) (rv.dats ed) ef fun w ys ry => ?_
        exact q1 M σ _ (s1.mutOwn e e1 (fun b o hb z => by rw [upd_ne hb]; exact z) ⟨ys, upd_same, Reps.keep (upd_keep ma) _ _ ry⟩)
      · exact q1.elim
    · exact q1.elim
  · rename_i k e
    obtain ⟨v, e1, a, em, rfl⟩ := s.er.2 i _ e
    split at q
    · rename_i ds0 ek
      obtain ⟨xs0, hH0, _⟩ := s.rel.cont k a _ em ek
      refine ⟨_, e1, .inl ⟨rfl, xs0, SqL.of hH0⟩, h.bindS s q fun vals ph1 vs H1 fr s1 rv q1 => ?_⟩
      split at q1
      · rename_i ds es' ek1 ed
        split at q1
        · rename_i ds' ef
          intro pins st σ' v' us I rx rxs
          obtain ⟨xsv, hH1, rs⟩ := s1.rel.cont k a _ em ek1
          refine hm pins st σ' H1 a xsv vs v' us M ds es' ds' _ I rx rxs hH1 rs (rv.dats ed) ef fun w ys ry => ?_
          have ma := s1.rel.sub a (List.mem_of_getElem? em)
          exact q1 M σ _ (s1.mutRef em (fun b o hb z => by rw [upd_ne hb]; exact z) ⟨ys, upd_same, Reps.keep (upd_keep ma) _ _ ry⟩)
        · exact q1.elim
      · exact q1.elim
    · exact q.elim
  · exact q.elim
theorem st_mut {id : String} {name n : Str} {f : List D → List D → Option (List D)} (slot : Slot "list" name id) (hty : typeOf (.builtin id) = pure (.type "method_descriptor")) (hm : MuS X id f) (i : Nat) (h : SA X W (e :: es) xs)
    (hN : X.N[i]? = some n := by rfl) (hv : Vis X.env.scope n := by first | exact Or.inl rfl | exact Or.inr (Or.inl rfl) | exact Or.inr (Or.inr rfl)) (hd : (n == ("__debug__" : Str)) = false := by decide) (hcd : (n == ("__classdict__" : Str)) = false := by decide)
    (hs : swapsWith (.Call (.Attribute (.Name n p) name apos) (e :: es) [] cpos) none pos.line X.env = pure false := by rfl)
    (hbase : attributeBase (.Name n p) name X.env (eval (.Name n p) X.env) = eval (.Name n p) X.env := by rfl)
    (hfew : ((backTo cpos (starEach (e :: es) X.env)).all (fun x => !x.1) && (backToKw cpos (keywordEach [] X.env)).all (fun x => x.1.isSome)
      && decide ((e :: es).length + ([] : List Keyword).length + (if ([] : List Keyword).isEmpty then 0 else 1) < 30)) = true := by rfl)
    (hline : (apos.endLine == cpos.line) = true := by rfl) (hst : starEach (e :: es) X.env = (false, eval e X.env) :: starEach es X.env := by rfl) (hplain : (backTo cpos (starEach es X.env)).any (·.1) = false := by rfl) :
    SS X W (.Expr (.Call (.Attribute (.Name n p) name apos) (e :: es) [] cpos) pos) (sMut i f xs) := ⟨fun M0 H0 hd' M m σ H env ph s D q =>
  tWS_of (ps_expr (pe_bm F.plainAttrs_list slot hty rWM_mt (pe_var hN hv hd hcd) tWA_pa hbase hfew hline hst hplain) hs) (by
    obtain ⟨w, h1, h2, h3⟩ := mut_core hm i hN h s q
    exact ⟨w, h1, h2, h3⟩)⟩
def fApp : List D → List D → Option (List D) := fun ds es => match es with
  | [d] => if ds.length < lim then some (ds ++ [d]) else none
  | _ => none
theorem m_app : MuS X "list.append" fApp := by
  intro pins s σ H a xs vs v us M ds es ds' Q I rx rxs hH rs re ef k
  unfold fApp at ef
  split at ef
  · rename_i d
    split at ef
    · rename_i hl
      cases ef
      rw [Reps] at re
      obtain ⟨y, ys, rfl, r1, r2⟩ := re
      rw [Reps] at r2
      subst r2
      exact mt_append pins s σ H _ _ v us Q I rx rxs ⟨a, xs, y, rfl, rfl, hH, by rw [rs.length]; exact lim_lt (Nat.le_of_lt hl), k _ _ (rs.append (.cons r1 Reps.nil))⟩
    · cases ef
  · cases ef
def insOk (n : Nat) (i : Int) : Bool := decide (n < lim) && decide (0 ≤ i) && decide (i.natAbs < 1000000)
def fIns : List D → List D → Option (List D) := fun ds es => match es with
  | [.int i, d] => bif insOk ds.length i then some (ds.take i.toNat ++ [d] ++ ds.drop i.toNat) else none
  | _ => none
theorem m_ins : MuS X "list.insert" fIns := by
  intro pins s σ H a xs vs v us M ds es ds' Q I rx rxs hH rs re ef k
  unfold fIns at ef
  split at ef
  · rename_i i d
    rw [cond_eq_ite] at ef
    split at ef
    · rename_i hl
      unfold insOk at hl
      rw [Bool.and_eq_true, Bool.and_eq_true, decide_eq_true_eq, decide_eq_true_eq, decide_eq_true_eq] at hl
      cases ef
      rw [Reps] at re
      obtain ⟨z, zs, rfl, r0, r3⟩ := re
      rw [Reps] at r3
      obtain ⟨y, ys, rfl, r1, r2⟩ := r3
      rw [Reps] at r2
      subst r2
      rw [Rep] at r0
      subst r0
      exact mt_insert pins s σ H _ _ v us Q I rx rxs ⟨a, xs, i, y, rfl, rfl, hH, by rw [rs.length]; exact lim_lt (Nat.le_of_lt hl.1.1), hl.1.2, by omega, k _ _ (((rs.take _).append (.cons r1 Reps.nil)).append (rs.drop _))⟩
    · cases ef
  · cases ef
theorem Reps.erase {K : PySem.W.Frag} {M : Addr → Prop} {H : Hp} : ∀ {ds : List D} {xs : List V} (n : Nat), Reps K M H ds xs → Reps K M H (ds.eraseIdx n) (xs.eraseIdx n)
  | [], xs, n, h => by rw [Reps] at h; subst h; exact Reps.nil
  | e :: ds, xs, 0, h => by
    rw [Reps] at h
    obtain ⟨w, vs, rfl, q, rs⟩ := h
    exact rs
  | e :: ds, xs, n + 1, h => by
    rw [Reps] at h
    obtain ⟨w, vs, rfl, q, rs⟩ := h
    exact .cons q (rs.erase n)
def fPopAt : List D → List D → Option (List D) := fun ds es => match es with
  | [.int i] => (ixN ds.length i).bind fun k => if ds.length ≤ lim then some (ds.eraseIdx k) else none
  | _ => none
theorem m_popAt : MuS X "list.pop" fPopAt := by
  intro pins s σ H a xs vs v us M ds es ds' Q I rx rxs hH rs re ef k
  unfold fPopAt at ef
  split at ef
  · rename_i i
    cases hi : ixN ds.length i with
    | none => rw [hi] at ef; cases ef
    | some j =>
      rw [hi] at ef
      have ef : (if ds.length ≤ lim then some (ds.eraseIdx j) else none) = some ds' := ef
      split at ef
      · rename_i hl
        cases ef
        rw [Reps] at re
        obtain ⟨z, zs, rfl, r0, r3⟩ := re
        rw [Reps] at r3
        subst r3
        rw [Rep] at r0
        subst r0
        obtain ⟨h1, h2, h3, h4⟩ := ixN_seq hi
        have hl' : ds.length ≤ 1000000 := hl
        obtain ⟨y, ey, _⟩ := rs.get (List.getElem?_eq_getElem h2)
        exact mt_popAt pins s σ H _ _ v us Q I rx rxs ⟨a, xs, i, j, y, rfl, rfl, hH, by omega, by omega, by rw [rs.length]; exact h1, ey, k _ _ (rs.erase j)⟩
      · cases ef
  · cases ef
def fExt : List D → List D → Option (List D) := fun ds es => match es with
  | [.lst fs] => if ds.length + fs.length ≤ lim then some (ds ++ fs) else none
  | _ => none
theorem m_ext : MuS X "list.extend" fExt := by
  intro pins s σ H a xs vs v us M ds es ds' Q I rx rxs hH rs re ef k
  unfold fExt at ef
  split at ef
  · rename_i fs
    split at ef
    · rename_i hl
      cases ef
      rw [Reps] at re
      obtain ⟨z, zs, rfl, r0, r3⟩ := re
      rw [Reps] at r3
      subst r3
      rw [Rep] at r0
      obtain ⟨b, ys, rfl, t, r1⟩ := r0
      exact mt_extend pins s σ H _ _ v us Q I rx rxs ⟨a, b, xs, ys, rfl, rfl, hH, t.2, by rw [rs.length, r1.length]; exact lim_line hl, k _ _ (rs.append r1)⟩
    · cases ef
  · cases ef

/-! xs[i] = e -/
def sPut (i : Nat) (ix x : Ex) : Sx := fun env ph => match env[i]? with
  | some (some (.own (.lst ds))) => (x env ph).bindS env fun v ph1 => (ix env ph1).bindS env fun k ph2 => match v.dat, k with
    | some d, .d (.int k) => match ixN ds.length k with
      | some j => .nx (env.set i (some (.own (.lst (ds.set j d))))) ph2
      | none => .bad
    | _, _ => .bad
  | some (some (.ref n)) => (x env ph).bindS env fun v ph1 => (ix env ph1).bindS env fun k ph2 => match v.dat, k, ph2[n]? with
    | some d, .d (.int k), some (.lst ds) => match ixN ds.length k with
      | some j => .nx env (ph2.set n (.lst (ds.set j d)))
      | none => .bad
    | _, _, _ => .bad
  | _ => .bad
theorem st_put (i : Nat) {n : Str} (ha : SE X W a xa) (he : SE X W e xe) (hN : X.N[i]? = some n := by rfl) (hv : Vis X.env.scope n := by first | exact Or.inl rfl | exact Or.inr (Or.inl rfl) | exact Or.inr (Or.inr rfl)) (hd : (n == ("__debug__" : Str)) = false := by decide)
    (hcd : (n == ("__classdict__" : Str)) = false := by decide) (hs : swapsWithSole [.Subscript (.Name n p) a p2] e pos.line X.env = pure false := by rfl) (hw : swappedStores [.Subscript (.Name n p) a p2] e X.env = pure none := by rfl)
    (h1 : (assignEach [.Subscript (.Name n p) a p2] X.env).map (·.2) = [assign (.Subscript (.Name n p) a p2) X.env] := by rfl)
    (hpl : ∀ v, assign (.Subscript (.Name n p) a p2) X.env v = (do
      let ov ← holding [v] (eval (.Name n p) X.env)
      let iv ← holding [v, ov] (eval a X.env)
      standAt p2
      holding [v, ov, iv] (setItem ov iv v)
      release [v, ov, iv] []) := by intro _; rfl) : SS X W (.Assign [.Subscript (.Name n p) a p2] e pos) (sPut i xa xe) := ⟨fun M0 H0 hd' M m σ H env ph s D q =>
  tWS_of (ps_asg tW_pe (pg_sub (pe_var hN hv hd hcd) tW_pe set_list hpl) hs hw h1) (by
    unfold sPut at q
    split at q
    · rename_i ds ei
      obtain ⟨w, e1, a', rfl, ma, am, xsv, hH, rs⟩ := s.er.2 i _ ei
      refine he.bindS s q fun val ph1 v H1 fr s1 rv _ q1 => ⟨_, e1, ha.bindS s1 q1 fun kv ph2 kw H2 fr2 s2 rv2 _ q2 => ?_⟩
      split at q2
      · rename_i d k ed _
        split at q2
        · rename_i j ej
          rw [RV, Rep] at rv2
          have hH2 := fr2 a' _ (fr a' _ hH am) am
          refine ⟨a', xsv, k, j, rfl, rv2, hH2, by rw [rs.length]; exact ej, q2 M σ _ (s2.mutOwn ei e1 (fun b o hb z => by rw [upd_ne hb]; exact z) ⟨_, upd_same, Reps.keep (upd_keep ma) _ _ ?_⟩)⟩
          exact (Reps.keep ((fr.trans fr2).keep s.rel) _ _ rs).set (((rv.keep s1.rel fr2)).dat ed) j
        · exact q2.elim
      · exact q2.elim
    · rename_i nn ei
      obtain ⟨w, e1, a', em, rfl⟩ := s.er.2 i _ ei
      refine he.bindS s q fun val ph1 v H1 fr s1 rv _ q1 => ⟨_, e1, ha.bindS s1 q1 fun kv ph2 kw H2 fr2 s2 rv2 _ q2 => ?_⟩
      split at q2
      · rename_i d k ds ed ek _
        split at q2
        · rename_i j ej
          rw [RV, Rep] at rv2
          obtain ⟨xsv, hH2, rs⟩ := s2.rel.cont nn a' _ em ek
          have ma := s2.rel.sub a' (List.mem_of_getElem? em)
          refine ⟨a', xsv, k, j, rfl, rv2, hH2, by rw [rs.length]; exact ej, q2 M σ _ (s2.mutRef em (fun b o hb z => by rw [upd_ne hb]; exact z) ⟨_, upd_same, Reps.keep (upd_keep ma) _ _ ?_⟩)⟩
          exact rs.set (((rv.keep s1.rel fr2)).dat ed) j
        · exact q2.elim
      · exact q2.elim
    · exact q.elim)⟩
end
end Pyp

/-! Cells made of own lists; starred targets. -/
namespace Pyp
open PySem PySem.Spec PyProof.Rows L2

section
variable {K : PySem.W.Frag} {M0 M : Addr → Prop} {H0 H H' : Hp} {hd : V → D → Prop} {m : List Addr} {σ σ' : L2.St} {env env' : Env} {ph ph' : PH} {i n : Nat} {d : D} {v : V} {a : Addr}
theorem Rel.push (r : Rel K (MAdd M a) m H ph) (c : Cont K (MAdd M a) H a d) (na : a ∉ m) : Rel K (MAdd M a) (m ++ [a]) H (ph ++ [d]) := by
  refine ⟨by simp [r.len], ?_, fun b z => ?_, r.dom, fun j b e e1 e2 => ?_⟩
  · exact List.nodup_append.mpr ⟨r.nd, by simp, fun b hb c hc => by
      have : c = a := by simpa using hc
      subst this
      exact fun q => na (q ▸ hb)⟩
  · rcases List.mem_append.mp z with z | z
    · exact r.sub b z
    · have : b = a := by simpa using z
      subst this; exact .inr rfl
  · by_cases hj : j < m.length
    · rw [List.getElem?_append_left hj] at e1
      rw [List.getElem?_append_left (by rw [← r.len]; exact hj)] at e2
      exact r.cont j b e e1 e2
    · rw [List.getElem?_append_right (by omega)] at e1
      rw [List.getElem?_append_right (by rw [← r.len]; omega)] at e2
      rw [r.len] at e1
      have h1 : j - ph.length = 0 := by
        have := (List.getElem?_eq_some_iff.mp e2).1
        simp at this; exact this
      rw [h1] at e1 e2
      have q1 : a = b := by simpa using e1
      have q2 : d = e := by simpa using e2
      subst q1 q2
      exact c
theorem Rel.pop (r : Rel K (MAdd M a) (m ++ [a]) H ph) (s : ∀ b ∈ m, M b) : Rel K M m H ph.dropLast := by
  have hl : ph.length = m.length + 1 := by have := r.len; simpa using this.symm
  refine ⟨by rw [List.length_dropLast]; omega, (List.nodup_append.mp r.nd).1, s, fun b z => r.dom b (.inl z), fun j b e e1 e2 => ?_⟩
  have hj := (List.getElem?_eq_some_iff.mp e1).1
  rw [List.getElem?_dropLast] at e2
  rw [if_pos (by omega)] at e2
  exact (r.cont j b e (by rw [List.getElem?_append_left hj]; exact e1) e2).anti fun _ z => .inl z
theorem Frame.pop (f : Frame (m ++ [a]) H0 H') (h : H0 a = none) : Frame m H0 H' := fun b o e n => f b o e fun z => by
  rcases List.mem_append.mp z with z | z
  · exact n z
  · have : b = a := by simpa using z
    subst this
    rw [h] at e; cases e
def popV : Val → Bool
  | .d _ => true
  | .own _ => true
  | _ => false
theorem RV.pop {x : Val} (hx : popV x = true) (f : ∀ p, H p = none → H0 p = none) (h : RV K (MAdd M a) (m ++ [a]) H H' v x) : RV K M m H0 H' v x := by
  cases x with
  | d x => exact Rep.anti (fun _ z => .inl z) x v h
  | own x =>
    obtain ⟨b, e, n, nm, c⟩ := h
    exact ⟨b, e, f b n, fun z => nm (.inl z), c.anti fun _ z => .inl z⟩
  | _ => cases hx
theorem RO.pop {x : Val} (s : ∀ b ∈ m, M b) (h : RO K (MAdd M a) (m ++ [a]) H' ph v x) : RO K M m H' ph.dropLast v x := fun d e b eb => by
  obtain ⟨r, c⟩ := h d e b eb
  have k : ∀ c, MAdd M b c → MAdd (MAdd M a) b c := fun c z => z.elim (fun z => .inl (.inl z)) .inr
  refine ⟨?_, c.anti k⟩
  have r2 : Rel K (MAdd (MAdd M b) a) (m ++ [a]) H' ph := ⟨r.len, r.nd, fun c z => (r.sub c z).elim (fun z => z.elim (fun z => .inl (.inl z)) .inr) fun z => .inl (.inr z), fun c z => r.dom c (z.elim (fun z => z.elim (fun z => .inl (.inl z)) .inr) fun z => .inl (.inr z)), fun n a' d' e1 e2 => (r.cont n a' d' e1 e2).anti fun c z => z.elim (fun z => z.elim (fun z => .inl (.inl z)) .inr) fun z => .inl (.inr z)⟩
  exact r2.pop fun c z => .inl (s c z)
end
def popC : Res Val → Res Val
  | .ok v ph => if popV v = true then .ok v ph.dropLast else .bad
  | .exc c fs ph => .exc c fs ph.dropLast
  | .bad => .bad
/-- a list just made, handed on as a cell -/
def eCallC (f : Fn) (x : Ex) : Ex := fun env ph => (x env ph).bind fun v ph1 => match v with
  | .own d => popC (f [.ref ph1.length] (ph1 ++ [d]))
  | _ => .bad
section
variable {X : Cx} {W : WX} {k : Nat} {name : Str} {f : Fn} {e : Expr} {x : Ex} {p pos : Pos}
theorem ExR.pop {mg : Str → Option Value} {K : PySem.W.Frag} {M : Addr → Prop} {a : Addr} {H : Hp} {c : Str} {fs : List (Str × D)} {cls : Value} {d : Option Addr} (h : ExR mg K (MAdd M a) H c fs cls d) : ExR mg K M H c fs cls d := by
  obtain ⟨C, e1, e2, e3⟩ := h
  refine ⟨C, e1, e2, ?_⟩
  cases fs with
  | nil => exact e3
  | cons p t => obtain ⟨dd, v, z1, z2, z3⟩ := e3; exact ⟨dd, v, z1, z2, Rep.anti (fun _ z => .inl z) _ _ z3⟩
theorem s_callC (F : FnAt X.prog X.w X.K X.mg X.base k name 1 f) (hr : Room k X.A) (tk : Takes X W) (ha : SE X W e x) (hg : Gl X name := by rfl) (hdb : (name == ("__debug__" : Str)) = false := by decide)
    (he : starEach [e] X.env = (false, eval e X.env) :: starEach [] X.env := by rfl) (hpl : (backTo pos (starEach [] X.env)).any (·.1) = false := by rfl) : SE X W (.Call (.Name name p) [e] [] pos) (eCallC f x) := by
  obtain ⟨fa, fd, ps, FO, hm, hk, hb⟩ := F.ex
  refine ⟨fun M m σ H env ph r er Q q => tW_of (pe_callS FO hr hg hm hk hb (fun σ => passAt tk σ) (pa_cons tW_pe pa_nil he) hdb he hpl) ?_⟩
  have q' : Post X W M m σ H (GE X M m H Q) ((x env ph).bind fun v ph1 => match v with
    | .own d => popC (f [.ref ph1.length] (ph1 ++ [d]))
    | _ => .bad) := q
  refine ha.run M m σ H env ph r er _ ?_
  cases hx : x env ph with
  | bad => rw [hx] at q'; exact q'.elim
  | exc c fs ph1 => rw [hx] at q'; exact q'
  | ok val ph1 =>
  rw [hx] at q'
  intro v H1 fr r1 rv ro
  cases val with
  | own d =>
    obtain ⟨a, rfl, h1, h2, h3⟩ := rv
    obtain ⟨ra, ca⟩ := ro d rfl a rfl
    have na : a ∉ m := fun z => h2 (r1.sub a z)
    have r2 := ra.push ca na
    have ia : ∀ y ∈ [Val.ref ph1.length], IsArg y := fun y hy => by
      have : y = .ref ph1.length := by simpa using hy
      subst this; exact trivial
    refine ⟨rfl, MAdd M a, m ++ [a], ph1 ++ [d], [.ref ph1.length], r2, ia, ⟨.ref a, [], rfl, ⟨a, ?_, rfl⟩, rfl⟩, ?_⟩
    · rw [← r1.len]; simp
    · have sub : ∀ b ∈ m, M b := r1.sub
      have q2 : Post X W M m σ H (GE X M m H Q) (popC (f [.ref ph1.length] (ph1 ++ [d]))) := q'
      cases hf : f [.ref ph1.length] (ph1 ++ [d]) with
      | bad => rw [hf] at q2; exact q2.elim
      | exc c fs ph2 =>
        rw [hf] at q2
        refine fun cls dd H' fr' r' ex => q2 cls dd H' (fun b o hb nb => fr' b o (fr b o hb nb) fun z => ?_) (r'.pop sub) ex.pop
        rcases List.mem_append.mp z with z | z
        · exact nb z
        · have : b = a := by simpa using z
          subst this; rw [h1] at hb; cases hb
      | ok y ph2 =>
        rw [hf] at q2
        have q3 : Post X W M m σ H (GE X M m H Q) (if popV y = true then .ok y ph2.dropLast else .bad) := q2
        split at q3
        · rename_i hy
          refine fun w H' fr' r' rv' ro' => q3 w H' ((fun b o hb nb => fr' b o (fr b o hb nb) fun z => ?_)) (r'.pop sub) (rv'.pop hy fun p hp => fr.back r1 hp) (ro'.pop sub)
          rcases List.mem_append.mp z with z | z
          · exact nb z
          · have : b = a := by simpa using z
            subst this; rw [h1] at hb; cases hb
        · exact q3.elim
  | _ => exact q'.elim
end
/-! a local list becomes a cell, to the end of the block -/
def popO : Out → Out
  | .ret v ph => if popV v = true then .ret v ph.dropLast else .bad
  | .nx env ph => .nx [] ph.dropLast
  | _ => .bad
def sCell (i : Nat) (b : Sx) : Sx := fun env ph => match env[i]? with
  | some (some (.own x)) => match b (env.set i (some (.ref ph.length))) (ph ++ [x]) with
    | .ret v ph' => if popV v = true then .ret v ph'.dropLast else .bad
    | _ => .bad
  | _ => .bad
theorem st_cell {X : Cx} {W : WX} {st : List Stmt} {b : Sx} (i : Nat) (h : SB X W st b) : SB X W st (sCell i b) := ⟨fun M0 H0 hd M m σ H env ph s D q => by
  unfold sCell at q
  split at q
  · rename_i x e
    obtain ⟨v, e1, a, rfl, ma, am, c⟩ := s.er.2 i _ e
    obtain ⟨h0, n0⟩ := s.own i x a e e1
    have hi : i < env.length := (List.getElem?_eq_some_iff.mp e).1
    have eqM : ∀ b, MAdd M a b → M b := fun b z => z.elim id fun q => q ▸ ma
    have r1 : Rel X.K (MAdd M a) m H ph := ⟨s.rel.len, s.rel.nd, fun b z => .inl (s.rel.sub b z), fun b z => s.rel.dom b (eqM b z), fun n b d z1 z2 => (s.rel.cont n b d z1 z2).anti eqM⟩
    have r2 := r1.push (c.anti eqM) am
    have lm : m.length = ph.length := s.rel.len
    have notin : ∀ (j : Nat) (y : Pyp.D) (b : Addr), i ≠ j → env[j]? = some (some (.own y)) → σ[j]? = some (some (V.ref b)) → b ≠ a := fun j y b ne e2 e3 q => s.sep i j x y a ne e e2 e1 (q ▸ e3)
    have s' : StR X.K (MAdd M0 a) H0 hd (MAdd M a) (m ++ [a]) σ H (env.set i (some (.ref ph.length))) (ph ++ [x]) := by
      refine ⟨r2, ⟨by simp [s.len], fun j y ey => ?_⟩, by simp [s.len], fun b z => z.elim (fun z => .inl (s.sub b z)) .inr, fun b z => ?_, fun b o hb nb => s.fr b o hb fun z => nb (List.mem_append_left _ z), fun j y b e2 e3 => ?_, fun j k y z b ne e2 e3 e4 e5 => ?_, fun v d z => Rep.anti eqM d v (s.held v d z)⟩
      · by_cases hj : i = j
        · subst hj
          rw [List.getElem?_set_self hi] at ey; cases ey
          exact ⟨_, e1, a, by rw [← lm]; simp, rfl⟩
        · rw [List.getElem?_set_ne hj] at ey
          obtain ⟨w, w1, w2⟩ := s.er.2 j y ey
          refine ⟨w, w1, ?_⟩
          cases y with
          | d y => exact Rep.anti eqM y w w2
          | own y =>
            obtain ⟨b, eb, z1, z2, z3⟩ := w2
            subst eb
            refine ⟨b, rfl, .inl z1, fun z => ?_, z3.anti eqM⟩
            rcases List.mem_append.mp z with z | z
            · exact z2 z
            · exact notin j y b hj ey w1 (by simpa using z)
          | bor y => exact w2.elim
          | ref n =>
            obtain ⟨b, z1, z2⟩ := w2
            exact ⟨b, by rw [List.getElem?_append_left (List.getElem?_eq_some_iff.mp z1).1]; exact z1, z2⟩
      · rcases List.mem_append.mp z with z | z
        · exact .inl (s.mem b z)
        · exact .inr (by simpa using z)
      · have hj : i ≠ j := fun q => by subst q; rw [List.getElem?_set_self hi] at e2; cases e2
        rw [List.getElem?_set_ne hj] at e2
        obtain ⟨z1, z2⟩ := s.own j y b e2 e3
        exact ⟨z1, fun z => z.elim z2 (notin j y b hj e2 e3)⟩
      · have hj : i ≠ j := fun q => by subst q; rw [List.getElem?_set_self hi] at e2; cases e2
        have hk : i ≠ k := fun q => by subst q; rw [List.getElem?_set_self hi] at e3; cases e3
        rw [List.getElem?_set_ne hj] at e2
        rw [List.getElem?_set_ne hk] at e3
        exact s.sep j k y z b ne e2 e3 e4 e5
    have sub0 : ∀ b ∈ m, M0 b := s.mem
    refine h.run (MAdd M0 a) H0 hd (MAdd M a) (m ++ [a]) σ H _ _ s' D ?_
    cases hb : b (env.set i (some (.ref ph.length))) (ph ++ [x]) with
    | ret v ph' =>
      rw [hb] at q
      have q : PostS X W M0 H0 hd m D (if popV v = true then .ret v ph'.dropLast else .bad) := q
      split at q
      · rename_i hy
        exact fun w H' fr' r' rv' ro' => q w H' (fr'.pop h0) (r'.pop sub0) (rv'.pop hy fun _ z => z) (ro'.pop sub0)
      · exact q.elim
    | _ => rw [hb] at q; exact q.elim
  · exact q.elim⟩

/-! ### (a, b, *c) = t -/
end Pyp

/-! (a, b, *c) = t -/
namespace Pyp
open PySem PySem.Spec PyProof.Rows L2

theorem shiftW {prog : Program} {w : World} {A : Around} {I : Addr} {fp wr : List Addr} {n : Nat} {P : Nat → Value → Prop} {St : Nat → Heap → Prop} (W : Walks prog w A I fp wr n P St) (k : Nat) (hk : k ≤ n) : Walks prog w A I fp wr (n - k) (fun i => P (i + k)) (fun i => St (i + k)) where
  sub := W.sub
  frame := fun i h h' st q => W.frame (i + k) h h' st q
  item := fun i s Q E hi st hQ => W.item (i + k) s Q E (by omega) st fun v h' tk p st' q => hQ v h' tk p (by rw [show i + 1 + k = i + k + 1 by omega]; exact st') q
  done := fun s Q E st hQ => W.done s Q E (by rw [show n = n - k + k by omega]; exact st) hQ
  self := fun i s Q E st q => W.self (i + k) s Q E st q
section
variable {prog : Program} {w : World} {A : Around} {E : Value → Shared → Prop} {s : Shared}
theorem unpackStar {t : Addr} {items : Array Value} {i : Nat} {Q : List Value → Shared → Prop} (hh : A.handled = none) (ht : IsTup s.heap t items) (hi : i ≤ items.size) (hz : items.size ≤ sizeLine)
    (hQ : ∀ (h' : Heap) (tk : Nat), (∀ b o, s.heap.get? b = some o → h'.get? b = some o) → Q (items.toList.take i ++ [.ref h'.objs.size]) { s with heap := h'.push { cls := .type "list", data := .seq (items.toList.drop i).toArray }, toks := tk }) :
    wpAny (model prog w) A (unpackItems (.ref t) (i + 1) (some i)) Q E s := by
  have hlt : t ≠ s.heap.objs.size := by obtain ⟨o, ho, _⟩ := ht; exact Nat.ne_of_lt (Heap.lt_size ho)
  unfold unpackItems
  refine wpAny_bind ?_
  unfold notIterableAtAll
  refine wpAny_bind (wpAny_specialOf ht.typeIs slot_tuple_iter.lookup ?_)
  refine wpAny_pure ?_
  simp only [Bool.false_eq_true, if_false]
  refine wpAny_bind (wpAny_holding (iter_tuple ht ?_))
  refine wpAny_bind (wpAny_holding (draw_tuple hlt i 0 _ _ ⟨_, Heap.get?_push_size _ rfl, rfl, rfl⟩ (ht.push _) (by omega) fun h₁ hit₁ hs₁ => ?_))
  have hl : ¬ ((List.take i (List.drop 0 items.toList)).length < i) := by simp; omega
  rw [if_neg hl]
  have ht₁ : IsTup h₁ t items := (ht.push _).extBut hs₁.extBut hlt
  have hit₁' : IsTupIter h₁ s.heap.objs.size t i := by simpa using hit₁
  have hlt1 : ∀ b ∈ [s.heap.objs.size, t], b < h₁.objs.size := by
    intro b hb
    rcases List.mem_cons.mp hb with e | hb
    · obtain ⟨o, ho, _⟩ := id hit₁'
      rw [e]; exact Heap.lt_size ho
    · have e : b = t := by simpa using hb
      obtain ⟨o, ho, _⟩ := id ht₁
      rw [e]; exact Heap.lt_size ho
  have WW := (shiftW (Walks.tuple (prog := prog) (w := w) (A := A.in1) (by exact hh) s.heap.objs.size t hlt items) i hi).toS
  have hIt : h₁.IsTupleIter s.heap.objs.size t i := hit₁'
  have hTu : h₁.IsTuple t items := ht₁
  refine wpAny_bind (wpAny_holding (wpAny_collect_iter (.inr (.inr (.inr rfl))) WW (fun j s' st => ?_) (by rw [Nat.zero_add]; exact ⟨hIt, hTu⟩) hlt1 List.mem_cons_self (fun s' acc hm hacc => ?_) (by omega)))
  · obtain ⟨⟨o, ho, hc, _⟩, _⟩ := st
    exact ⟨o, ho, hc⟩
  · have eacc : acc.toList = items.toList.drop i := by
      apply List.ext_getElem?
      intro j
      rw [Array.getElem?_toList, List.getElem?_drop, Array.getElem?_toList]
      by_cases hj : j < acc.size
      · have e1 : acc[j]? = some acc[j] := by simp [hj]
        rw [e1, Nat.add_comm]
        exact (hacc.2 j _ e1).symm
      · rw [Array.getElem?_eq_none (by omega), Array.getElem?_eq_none (by have := hacc.1; omega)]
    obtain ⟨h2, g2, d2, tk2, os2⟩ := s'
    have eg : g2 = s.gens := hm.gens
    have ed : d2 = s.drawn := hm.drawn
    have eo : os2 = s.os := hm.os
    subst eg; subst ed; subst eo
    rw [eacc]
    have hl2 : ¬ ((items.toList.drop i).length < i + 1 - 1 - i) := by omega
    show wpAny _ _ (if (items.toList.drop i).length < i + 1 - 1 - i then _ else _) _ _ _
    rw [if_neg hl2]
    have e0 : (items.toList.drop i).length - (i + 1 - 1 - i) = (items.toList.drop i).length := by omega
    have et : List.take i (List.drop 0 items.toList) = items.toList.take i := by rw [List.drop_zero]
    rw [et]
    show wpAny _ _ (newList (List.take ((items.toList.drop i).length - (i + 1 - 1 - i)) (items.toList.drop i)) >>= fun l => pure (items.toList.take i ++ [l] ++ List.drop ((items.toList.drop i).length - (i + 1 - 1 - i)) (items.toList.drop i))) _ _ _
    rw [e0, List.take_length, List.drop_length]
    refine wpAny_bind (wpAny_newList (wpAny_pure ?_) (by rw [List.length_drop, Array.length_toList]; omega))
    rw [List.append_nil]
    refine hQ h2 tk2 fun b o e => hm.heap b o (fun z => ?_) (hs₁.extBut b o (fun z => ?_) (Heap.get?_push_of_some _ e))
    · have : b = s.heap.objs.size := by simpa using z
      subst this; exact absurd (Heap.lt_size e) (Nat.lt_irrefl _)
    · subst z; exact absurd (Heap.lt_size e) (Nat.lt_irrefl _)
end
def gTupS (K : PySem.W.Frag) (n : Nat) (t : TGs) : TG := fun v σ H Q => ∃ a xs, v = .ref a ∧ SqT K H a xs ∧ n ≤ xs.length ∧ ∀ p, H p = none → t (xs.take n ++ [.ref p]) σ (upd H p (.lst (xs.drop n))) Q
section
variable {X : Cx} {e : Expr} {es : List Expr} {pos p : Pos}
theorem pg_tupS {k : Nat} {t : TGs} {n : Nat} (hc : X.calm = true) (h : PGs X es t) (hn : (assignEach es X.env).length = n + 1 := by rfl) (hst : (assignEach es X.env).findIdx? (·.1) = some n := by rfl) : PG X (.Tuple es k pos) (gTupS X.K n t) := by
  refine ⟨fun pins s σ H v u Q I r hw => ?_⟩
  obtain ⟨a, xs, e1, hq, hl, hw⟩ := hw
  subst e1
  cases r
  obtain ⟨its, rv, ht, hz⟩ := I.tuple hq
  have hlen := rv.length
  rw [assign_Tuple]
  refine wpAny_bind (wpAny_standAt ?_)
  unfold unpack
  rw [hn, hst]
  refine wpAny_bind (wpAny_holding (unpackStar (I.ok.hd hc) ht (by rw [List.size_toArray]; omega) (by rw [List.size_toArray]; omega) fun h' tk hk => ?_))
  have I1 : Inv X pins σ H { s with heap := h', toks := tk } := I.kept hk
  have I2 : Inv X pins σ (upd H h'.objs.size (.lst (xs.drop n))) { s with heap := h'.push { cls := .type "list", data := .seq (its.drop n).toArray }, toks := tk } :=
    I1.laid (t' := tk) (fun b o e => Heap.get?_push_of_some _ e) (Nat.le_refl _) (show ObjOk X.prog X.w _ _ _ (.lst (xs.drop n)) from ⟨by rw [List.length_drop]; omega, its.drop n, 0, rv.drop n, Heap.get?_push_size _ rfl⟩)
  exact h.run pins _ σ _ (xs.take n ++ [.ref h'.objs.size]) _ Q I2 ((rv.take n).append (.cons (show RelV (.ref _) (.ref _) from rfl) .nil)) (hw _ (I1.hok.fresh (Nat.le_refl _)))
theorem pgs_star {t : TG} (h1 : PG X e t) (hs : (assignEach [.Starred e p] X.env).map (·.2) = [assign e X.env] := by rfl) : PGs X [.Starred e p] (gCons t gNil) := by
  refine ⟨fun pins s σ H vs us Q I r h => ?_⟩
  obtain ⟨v, vr, e1, h⟩ := h
  subst e1
  cases r with
  | cons r rr =>
    rw [hs]
    refine assignInOrder_cons (thn (h1.run pins s σ H _ _ _ I r h) fun _ s1 ⟨σ1, H1, I1, q1⟩ => ?_)
    obtain ⟨e2, q⟩ := q1
    subst e2
    cases rr
    exact assignInOrder_nil ⟨σ1, H1, I1, q⟩
variable {g : Gx} {gs : Gsx} {sl : List Nat}
theorem gs_star (h1 : SG X e g sl) (hs : (assignEach [.Starred e p] X.env).map (·.2) = [assign e X.env] := by rfl) : SGs X [.Starred e p] (gsCons g gsNil) sl := ⟨fun M m σ H env ph ds vs env' rl er hl r h Q q => tWGs_of (pgs_star tWG_pg hs) (by
  cases ds with
  | nil => cases h
  | cons d ds =>
    rw [Reps] at r
    obtain ⟨v, vs, rfl, r1, r2⟩ := r
    have h' : (g d env).bind (fun env1 => gsNil ds env1) = some env' := h
    cases hg : g d env with
    | none => rw [hg] at h'; cases h'
    | some env1 =>
      rw [hg] at h'
      cases ds with
      | cons d2 ds => cases h'
      | nil =>
        cases h'
        rw [Reps] at r2
        subst r2
        exact ⟨v, [], rfl, h1.run M m σ H env ph d v _ rl er hl r1 hg _ fun σ1 H1 f1 rl1 er1 c1 => ⟨rfl, q σ1 H1 f1 rl1 er1 c1⟩⟩)⟩
def gTS (n : Nat) (gs : Gsx) : Gx := fun d env => match d with
  | .tup ds => if n ≤ ds.length then gs (ds.take n ++ [.lst (ds.drop n)]) env else none
  | _ => none
theorem g_tupS {k : Nat} (n : Nat) (hc : X.calm = true) (h : SGs X es gs sl) (hn : (assignEach es X.env).length = n + 1 := by rfl) (hst : (assignEach es X.env).findIdx? (·.1) = some n := by rfl) : SG X (.Tuple es k pos) (gTS n gs) sl :=
  ⟨fun M m σ H env ph d v env' rl er hl r hg Q q => by
    cases d with
    | tup ds =>
      have hg' : (if n ≤ ds.length then gs (ds.take n ++ [.lst (ds.drop n)]) env else none) = some env' := hg
      split at hg'
      · rename_i hl2
        rw [Rep] at r
        obtain ⟨a, xs, e, t, rs⟩ := r
        refine tWG_of (pg_tupS hc tWGs_pgs hn hst) ⟨a, xs, e, t.sq, by rw [rs.length]; exact hl2, fun p hp => ?_⟩
        have f0 : Frame m H (upd H p (.lst (xs.drop n))) := Frame.new hp
        have rl0 := rl.new (o := .lst (xs.drop n)) hp
        have kp := keep_new (M := M) (o := HO.lst (xs.drop n)) hp
        refine h.run M m σ _ env ph _ _ env' rl0 (er.keep rl f0) hl ((Reps.keep kp _ _ (rs.take n)).append (.cons ?_ Reps.nil)) hg' Q fun σ' H' f' r' er' c => q σ' H' (f0.trans f') r' er' c
        rw [Rep]
        exact ⟨p, _, rfl, ⟨rl.notM hp, upd_same⟩, Reps.keep kp _ _ (rs.drop n)⟩
      · cases hg'
    | _ => cases hg⟩
end
end Pyp

/-! An own error with a field (lines of skel/42_own_error_by_import turned to this class), raised and caught. -/
namespace PySem
namespace LowX
open PySem.W PySem.Calls PyProof.Rows PySem.HandSPX
abbrev leTail : List Value := [.type "LookupError", .type "Exception", .type "BaseException", .type "object"]
def leMro (C : Addr) (l : List Value) : Prop := l = .ref C :: leTail
section
open Builtin Builtin.ObjectAttr
variable {prog : Program} {w : World} {A : Around} {E : Value → Shared → Prop} {R : Result → Shared → Prop} {hp : Heap} {g : Array GenState} {d : Drawn} {t : Nat} {os : OsState}
/-- self.name = v in __init__ of an own class over LookupError: the instance had no dict -/
theorem osaL {K : W.Frag} {name : Str} {tk : Tok} {v : Value} {x C : Addr} {fv : Array Value} {cd : ClassData} (X : K.In hp) (hx : hp.get? x = some { cls := .ref C, data := .fields fv }) (hcd : W.clsIn K C = some cd) (hm : leMro C cd.mro) (hh : cd.hasDict = true)
    (ha : W.findIn K (.ref C) name = some none) (hq : ∀ h' tk' dx, (∀ b o, b ≠ x → hp.get? b = some o → h'.get? b = some o) → hp.objs.size ≤ dx → dx ≠ x → h'.get? x = some { cls := .ref C, dict := some dx, data := .fields fv } →
      h'.Ns1 dx (fun y => if y = name then some v else none) → R (.ok (.ret .none)) ⟨h', g, d, tk', os⟩) : codeAny (model prog w) A (.call (.builtin "object.__setattr__") ⟨[.ref x, .str name tk, v], []⟩) R ⟨hp, g, d, t, os⟩ := by
  have IA : W.InstAt hp x { cls := .ref C, data := .fields fv } C none := ⟨hx, rfl, rfl, trivial⟩
  have SF := F.store_object
  have em : cd.mro = .ref C :: leTail := hm
  have ne : cd.mro.isEmpty = false := by rw [em]; rfl
  have hob : cd.mro.contains (.type "object") = true := by rw [em, List.contains_cons, show leTail.contains (.type "object") = true by decide +kernel, Bool.or_true]
  have hxs : x ≠ hp.objs.size := Nat.ne_of_lt (Heap.lt_size hx)
  have sub : W.Looks (model prog w) hp (isInstance (.ref x) (.type "object")) true := IA.type.andThen (W.looks_mroIn X (by unfold W.mroIn; rw [hcd, Option.bind_some, if_neg (by rw [ne]; decide), hob]))
  refine codeAny_call_builtin SF.slot.plain SF.entry (@W.check_slot (model prog w) _ _ ⟨hp, g, d, t, os⟩ "object.__setattr__" "object" "__setattr__" (.ref x) [.str name tk, v] [] _ SF.kind SF.split sub (SF.args (.ref x) (.str name tk) v) ?_)
  have hmr : W.Looks (model prog w) hp (mroOf (.ref C)) cd.mro := (W.looks_clsIn X hcd).andThen .now
  have nt : W.Looks (model prog w) hp (storeTaker? none) none := .now
  have hcls : W.Looks (model prog w) hp (classData C) cd := W.looks_clsIn X hcd
  rw [W.osa_eq, refuse_eq]
  refine wpAny_bind (wpAny_bind (IA.type.at (wpAny_bind (hmr.at ?_))))
  rw [em, refuseLoop_ref, F.store_LookupError.passes]
  refine wpAny_pure (wpAny_bind (IA.type.at (wpAny_bind ((W.looks_findIn X ha).at (wpAny_bind (nt.at ?_))))))
  show wpAny _ _ (storeInOwnDict (.ref x) (.ref C) (.str name tk) name v false) _ _ _
  obtain ⟨nm, bs, mro, ns, qn, hd, sn, sb, ab, col, del⟩ := cd
  dsimp only at hh
  subst hh
  unfold storeInOwnDict ownDictForStores
  repeat (first | with_reducible refine store_in_new ?_ ?_ | with_reducible refine wpAny_loadPart_at hx ?_ | with_reducible refine hcls.at ?_ | wp_step)
  · exact ⟨_, #[], _, (Heap.get?_update_ne _ _ _ _ hxs.symm).trans (Heap.get?_push_at rfl rfl), rfl, fun e he => absurd he (by simp), fun _ => rfl⟩
  · intro h' tk' hn' hs
    have hx₁ : (hp.push { cls := .type "dict", data := .dict #[] }).get? x = some { cls := .ref C, data := .fields fv } := Heap.get?_push_of_some _ hx
    refine hq h' tk' hp.objs.size (fun b o hb ho => ?_) (Nat.le_refl _) hxs.symm ?_ hn'
    · exact (hs.2 b (Nat.ne_of_lt (Heap.lt_size ho))).trans ((Heap.get?_update_ne _ _ _ _ hb).trans (Heap.get?_push_of_some _ ho))
    · exact (hs.2 x hxs).trans (Heap.get?_update_self _ hx₁ rfl)
end
end LowX
end PySem
namespace PySem
namespace LowX
open PySem.W PySem.Calls PyProof.Rows PySem.HandSPX
/-! ### the text of __init__ -/
def iA (p1 p2 : Pos) : Arguments := { posonlyargs := [], args := [{ arg := "self", annotation := none, pos := p1 }, { arg := "place", annotation := none, pos := p2 }], vararg := none, kwonlyargs := [], kw_defaults := [], kwarg := none, defaults := [] }
def iB (q1 q2 q3 q4 : Pos) : List Stmt := [.Assign [.Attribute (.Name "self" q1) "place" q2] (.Name "place" q3) q4]
def iS : Scope := { kind := .function, names := [(PySem.Str.ofString "self", .local), (PySem.Str.ofString "place", .local)], isGenerator := false, isCoroutine := false, more := [] }
/-- what the written part says of Low, at C, and of its __init__, at fI -/
structure LowTxt (K : Frag) (mg : Str → Option Value) (C fI : Addr) : Prop where
  gC : mg "NoPlace" = some (.ref C)
  cls : ∃ nm q N bs bm sn sub ab col dd k0 k1 k2 k3 k5, K.lookup C = some (excClassObj nm q C N bs bm true sn sub ab col dd k0 k1 k2 k3 k5 "LookupError.__new__") ∧ bm = leTail
  sa : findIn K (.ref C) "__setattr__" = some (some (.builtin "object.__setattr__"))
  ga : findIn K (.ref C) "__getattribute__" = some (some (.builtin "BaseException.__getattribute__"))
  gg : findIn K (.ref C) "__getattr__" = some none
  noN : findIn K (.ref C) "place" = some none
  iC : findIn K (.ref C) "__init__" = some (some (.ref fI))
  tC : typeIn K (.ref fI) = some (.type "function")
  kC : keepIn K (.ref C) = true
  exC : subIn K (.ref C) (.type "BaseException") = some true
  tyC : typeIn K (.ref C) = some (.type "type")
  hdC : hasDictIn K C = true
  te : exmOne K (.ref C) (.ref C) = some true
  fn : ∃ (oc : Value) (od : Option Addr) (doc pm : Value) (an : Option Addr) (cdv ct : Value) (osl : Array (Option Value)) (p1 p2 q1 q2 q3 q4 : Pos),
    K.lookup fI = some ⟨oc, od, .func (fnOf "__init__" "NoPlace.__init__" (iA p1 p2) (iB q1 q2 q3 q4) iS .none .none doc pm an cdv ct), osl⟩ ∧ codeIn K cdv "NoPlace.__init__" = true
theorem one_size (v : Value) : [v].length ≤ sizeLine := by
  rw [sizeLine_eq]
  exact (by decide : 1 ≤ 16777216)
theorem kept_but {K : Frag} {h h' : Heap} {x : Addr} (X : K.In h) (hx : K.lookup x = none) (k : ∀ b o, b ≠ x → h.get? b = some o → h'.get? b = some o) : K.In h' := fun a o e =>
  k a o (fun z => by rw [z, hx] at e; cases e) (X a o e)
theorem ldC {M : Model} {s : Shared} {name : Str} {scope : Scope} {L a : Addr} {cd : Value} {m : Str → Option Value} {x : Str} {pos : Pos} {v : Value} {Q : Value → Shared → Prop} {A : Around} {E : Value → Shared → Prop} (hn : s.heap.Ns L m) (hv : m x = some v) (h : Q v s)
    (hk : scope.kind = .function := by rfl) (hl : (envOfC name scope L a cd).kindOf x = some .local := by rfl) (hd : (x == ("__debug__" : Str)) = false := by decide) :
    wpAny M A (eval (.Name x pos) (envOfC name scope L a cd)) Q E s := wpAny_Name (wpAny_loadName_local hk hl hn hv h) hd
/-- what __init__ leaves of a fresh exception at x -/
structure InitEnd (h h' : Heap) (x C dx t1 : Addr) (v : Value) : Prop where
  keep : ∀ b o, b ≠ x → h.get? b = some o → h'.get? b = some o
  obj : h'.get? x = some { cls := .ref C, dict := some dx, data := .fields #[.ref t1, .none, .none, .none, .bool false, .none] }
  dbig : h.objs.size ≤ dx
  dne : dx ≠ x
  ns : h'.Ns1 dx (fun y => if y = "place" then some v else none)
/-- a made Low -/
structure OwnMade (h h' : Heap) (e C d : Addr) (v : Value) : Prop where
  keep : ∀ b o, h.get? b = some o → h'.get? b = some o
  new : h.objs.size ≤ e
  obj : ∃ oe vs, h'.get? e = some oe ∧ oe.cls = .ref C ∧ oe.dict = some d ∧ oe.data = .fields vs ∧ vs[1]? = some .none
  dbig : h.objs.size ≤ d
  dne : d ≠ e
  ns : h'.Ns1 d (fun y => if y = "place" then some v else none)
section
variable {prog : Program} {w : World} {A : Around} {E : Value → Shared → Prop} {R : Result → Shared → Prop} {s : Shared} {K : Frag} {mg : Str → Option Value} {C fI : Addr}
theorem low_init (T : LowTxt K mg C fI) {x t0 : Addr} {v : Value} (X : K.In s.heap) (hlim : s.heap.NoLimit) (hx : s.heap.get? x = some (excO C t0)) (hnx : K.lookup x = none) (hroom : A.depth < recursionLimit)
    (hq : ∀ h' tk dx, InitEnd s.heap h' x C dx t0 v → R (.ok (.ret .none)) { s with heap := h', toks := tk }) :
    codeAny (model prog w) A (.call (.ref fI) ⟨[.ref x, v], []⟩) R s := by
  obtain ⟨oc, od, doc, pm, an, cdv, ct, osl, p1, p2, q1, q2, q3, q4, ho, hcd⟩ := T.fn
  obtain ⟨nm, q, N, bs, bm, sn, sub, ab, col, dd, k0, k1, k2, k3, k5, hC, hbm⟩ := T.cls
  have hcl : clsIn K C = some { name := nm, bases := bs, mro := .ref C :: bm, ns := N, qualname := q, hasDict := true, slotNames := sn, subclasses := sub, abstract := ab, collection := col, hasDel := false } := by unfold clsIn; rw [hC] <;> rfl
  refine Att.call_fn (binds := [("self", .ref x), ("place", v)]) X hlim ho hcd hroom (BindsTo.of_eq (by first | rfl | with_unfolding_all rfl)) (by first | rfl | decide | with_unfolding_all rfl) (fun s₁ IC => ?_) rfl rfl rfl
  obtain ⟨h₁, tk₁, rfl⟩ := IC.toInCall.same
  have k : ∀ b o, s.heap.get? b = some o → h₁.get? b = some o := IC.toInCall.keep
  have hn := IC.toInCall.ns
  have hxL : s.heap.objs.size ≠ x := Nat.ne_of_gt (Heap.lt_size hx)
  have X₁ : K.In h₁ := X.keeps k
  have hx₁ := k _ _ hx
  -- self.by = by
  show wpAny _ _ (execs _ _) _ _ _
  refine wpAny_execs_cons (plainObj_wpAny_Assign_Attribute ?_)
  refine ldC (v := v) hn (by first | rfl | with_unfolding_all rfl | kernel_rfl) (ldC (v := .ref x) hn (by first | rfl | with_unfolding_all rfl | kernel_rfl) ?_)
  refine set_plain X₁ (ox := excO C t0) (od := none) ⟨hx₁, rfl, rfl, trivial⟩ T.sa ?_
  refine osaL X₁ hx₁ hcl (show leMro C (.ref C :: bm) from hbm ▸ rfl) rfl T.noN (fun h₃ tk₃ dx k₃ dn dne hx₃ hn₃ => ?_)
  show wpAny _ _ (execs _ _) _ _ _
  have z : s.heap.objs.size < h₁.objs.size := hn.lt
  exact wpAny_execs_nil (hq h₃ tk₃ dx ⟨fun b o hb e => k₃ b o hb (k b o e), hx₃, Nat.le_of_lt (Nat.lt_of_lt_of_le z dn), dne, hn₃⟩)
theorem low_made (T : LowTxt K mg C fI) {v : Value} (X : K.In s.heap) (hlim : s.heap.NoLimit) (hroom : A.depth + 1 < recursionLimit)
    (hq : ∀ h' tk e d, OwnMade s.heap h' e C d v → R (.ok (.ret (.ref e))) { s with heap := h', toks := tk }) :
    codeAny (model prog w) A (.call (.ref C) ⟨[v], []⟩) R s := by
  obtain ⟨nm, q, N, bs, bm, sn, sub, ab, col, dd, k0, k1, k2, k3, k5, hC, hbm⟩ := T.cls
  obtain ⟨hp, g, dr, tk, os⟩ := s
  have k : ∀ b o, hp.get? b = some o → ((hp.push (kdv_tup [v])).push (excO C hp.objs.size)).get? b = some o := fun b o e => Heap.get?_push_of_some _ (Heap.get?_push_of_some _ e)
  have hget : ((hp.push (kdv_tup [v])).push (excO C hp.objs.size)).get? (hp.objs.size + 1) = some (excO C hp.objs.size) := by heap_get
  have hnx : K.lookup (hp.objs.size + 1) = none := by
    cases e : K.lookup (hp.objs.size + 1) with
    | none => rfl
    | some o =>
      have z : hp.get? (hp.objs.size + 1) = some o := X _ _ e
      exact absurd (Nat.lt_of_succ_lt (Heap.lt_size z)) (Nat.lt_irrefl _)
  refine call_own F.excBase_LookupError (fun X => by rw [hbm]) (X _ _ hC) (looks_findIn X T.iC) (fun self => bind_fn X self T.tC) (one_size v) ?_
  refine low_init (s := ⟨(hp.push (kdv_tup [v])).push (excO C hp.objs.size), g, dr, tk, os⟩) T (X.keeps k) (hlim.keeps k) hget hnx ?_ fun h' tk' dx ⟨k', hx, dn, dne, hns⟩ => ?_
  · show A.depth + 1 < recursionLimit
    exact hroom
  · have old : ∀ b o, hp.get? b = some o → h'.get? b = some o := fun b o e => k' b o (Nat.ne_of_lt (Nat.lt_succ_of_lt (Heap.lt_size e))) (k b o e)
    have z : hp.objs.size + 1 + 1 ≤ dx := by
      first
        | (simpa only [Heap.size_push] using dn)
        | exact dn
        | (have q := dn; rw [Heap.size_push, Heap.size_push] at q; exact q)
    exact ⟨rfl, hq h' tk' (hp.objs.size + 1) dx ⟨old, Nat.le_succ _, ⟨_, _, hx, rfl, rfl, rfl, rfl⟩, Nat.le_trans (Nat.le_trans (Nat.le_succ _) (Nat.le_succ _)) z, dne, hns⟩⟩
end
end LowX
end PySem
namespace L2
open PySem PySem.Spec PyProof.Rows
theorem relO_low {v : V} {v' : Value} (r : RelV v v') (f : Str) : RelO (List.lookup f [(("place" : Str), v)]) (if f = "place" then some v' else none) := by
  by_cases hw : f = "place"
  · subst hw
    rw [if_pos rfl]
    have q : List.lookup ("place" : Str) [(("place" : Str), v)] = some v := by simp [List.lookup]
    rw [q]
    exact r
  · rw [if_neg hw]
    have qw : (f == ("place" : Str)) = false := by simpa using hw
    have q2 : List.lookup f [(("place" : Str), v)] = none := by simp [List.lookup, qw]
    rw [q2]
    trivial
section
variable {X : Cx} {C fI : Addr}
/-- Low(e) -/
def tMkLow (C : Addr) (ta : TA) : St → Hp → XK → Prop := fun σ H Q => ta σ H fun vs H1 => ∃ v, vs = [v] ∧ ∀ d, H1 d = none → Q (.ref C) (some d) (upd H1 d (.xd [(("place" : Str), v)]))
theorem pmk_low {a : Expr} {ta : TA} {p pos : Pos} {k : Nat} (T : PySem.LowX.LowTxt X.K X.mg C fI) (hr : Room k X.A) (ha : PA X [a] ta) (hg : Gl X "NoPlace" := by rfl)
    (he : starEach (a :: []) X.env = (false, eval a X.env) :: starEach [] X.env := by rfl) (hpl : (backTo pos (starEach [] X.env)).any (·.1) = false := by rfl) :
    PMk X (.Call (.Name "NoPlace" p) [a] [] pos) (tMkLow C ta) := by
  intro pins s σ H Q I h
  refine wpAny_Call_Name_kw (ld_glob I hg T.gC ?_)
  refine PySem.W.callWith_K (h₀ := X.base) I.ok.mod.kin T.kC (thn (ha.run pos pins s σ H _ I h) fun us s1 hh => ?_) he hpl
  obtain ⟨vs, H1, I1, r1, v, ev, q1⟩ := hh
  subst ev
  refine ⟨I1.kIn, ?_⟩
  cases r1 with
  | cons rv rn =>
    rename_i v' us'
    cases rn
    show wpAny _ _ (call (.ref C) [v']) _ _ _
    have hlim := I1.nolimit
    obtain ⟨hp, g, dr, tk, os⟩ := s1
    refine wpAny_call (PySem.LowX.low_made T I1.kIn hlim (by have := hr.dp; omega) fun h' tk' e d M => ?_)
    show MkP X pins σ Q (.ref e) ⟨h', g, dr, tk', os⟩
    obtain ⟨oe, fv, hoe, hc, hd, hdat, h1⟩ := M.obj
    have hns := M.ns
    obtain ⟨G', g1, g2⟩ := restrict h' fun b => decide (b ≠ e)
    have gk : ∀ b, b ≠ e → G'.get? b = h'.get? b := fun b hb => g1 b (decide_eq_true hb)
    have ge : G'.get? e = none := g2 e (by simp)
    have old : ∀ b o, hp.get? b = some o → G'.get? b = some o := fun b o q => (gk b (Nat.ne_of_lt (Nat.lt_of_lt_of_le (Heap.lt_size q) M.new))).trans (M.keep b o q)
    have ob : ObjOk X.prog X.w (upd H1 d (.xd [(("place" : Str), v)])) G' d (.xd [(("place" : Str), v)]) :=
      ⟨_, hns.at (fun o q => (gk d M.dne).trans q), fun f => relO_low rv f⟩
    have J : Inv X pins σ (upd H1 d (.xd [(("place" : Str), v)])) ⟨G', g, dr, tk', os⟩ := I1.laid (t' := tk') old M.dbig ob
    refine ⟨e, oe, fv, ⟨G', g, dr, tk', os⟩, _, .ref C, some d, rfl, J, fun b o q => ?_, ge, hoe, ⟨hc, hd⟩, hdat, h1, ?_, rfl, I1.bare, raises_own T.exC T.tyC, q1 d (I1.hok.fresh M.dbig)⟩
    · by_cases hb : b = e
      · have q' : G'.get? b = some o := q
        rw [hb, ge] at q'; cases q'
      · exact (gk b hb).symm.trans q
    · rw [upd_ne (Ne.symm M.dne)]
      exact I1.hok.fresh M.new
/-- raise Low(e) -/
def tRaiseLow (C : Addr) (W : WX) (ta : TA) : TS := fun _ σ H => tMkLow C ta σ H fun cls d H' => W cls d σ H'
theorem ps_raiseLow {a : Expr} {ta : TA} {W : WX} {p pos pos2 : Pos} {k : Nat} (hc : X.calm = true) (T : PySem.LowX.LowTxt X.K X.mg C fI) (hr : Room k X.A) (tk : Takes X W) (ha : PA X [a] ta) (hg : Gl X "NoPlace" := by rfl)
    (he : starEach (a :: []) X.env = (false, eval a X.env) :: starEach [] X.env := by rfl) (hpl : (backTo pos (starEach [] X.env)).any (·.1) = false := by rfl) :
    PS X (.Raise (some (.Call (.Name "NoPlace" p) [a] [] pos)) none pos2) (tRaiseLow C W ta) := ps_raise hc tk (pmk_low T hr ha hg he hpl)
/-- low.by, low the exception that the suite holds (at a; its class cls, its dict d) -/
def tByLow (C : Addr) (a : Addr) (cls : Value) (d : Option Addr) (te : TE) : TE := fun σ H Q => te σ H fun x H1 => x = .ref a ∧ cls = .ref C ∧ ∃ (dd : Addr) (v : V), d = some dd ∧ H1 dd = some (.xd [(("place" : Str), v)]) ∧ Q v H1
theorem pe_byLow {a : Addr} {oe : Obj} {cls : Value} {d : Option Addr} {pn : List (Addr × Obj)} {e : Expr} {te : TE} {pos : Pos} (T : PySem.LowX.LowTxt X.K X.mg C fI) (hz : Zc cls d oe) (hf : ∃ vs, oe.data = .fields vs) (he : PE (X.suite a ((a, oe) :: pn)) e te)
    (hb : attributeBase e "place" X.env (eval e X.env) = eval e X.env := by rfl) :
    PE (X.suite a ((a, oe) :: pn)) (.Attribute e "place" pos) (tByLow C a cls d te) := by
  refine ⟨fun pins s σ H Q I h => ?_⟩
  refine attr_of hb (thn (he.run pins s σ H _ I h) fun u s1 hh => ?_)
  obtain ⟨x, H1, I1, rx, ex, ec, dd, v, ed, ea, q⟩ := hh
  subst ex
  obtain rfl : u = Value.ref a := rx
  subst ec
  subst ed
  obtain ⟨ha, _⟩ := I1.pin (a, oe) (List.mem_append_left _ List.mem_cons_self)
  obtain ⟨vs, hd⟩ := hf
  have hx : ObjOk X.prog X.w H1 s1.heap dd (.xd [(("place" : Str), v)]) := I1.hok dd _ ea
  obtain ⟨mA, hns, hr⟩ := hx
  obtain ⟨od, ho, hl⟩ := lookIn_ns hns
  have l : List.lookup ("place" : Str) [(("place" : Str), v)] = some v := by simp [List.lookup]
  obtain ⟨u, hu, ru⟩ := RelO.some_of (v := v) (o := mA "place") (by rw [← l]; exact hr "place")
  have J : PySem.W.InstAt s1.heap a oe C (some od) := ⟨ha, hz.1, by unfold PySem.W.notCls; rw [hd] <;> rfl, by rw [hz.2]; exact ho⟩
  exact HandSPX.exc_get I1.kIn J T.ga T.gg T.exC (PySem.W.findObj_own T.hdC T.noN rfl (by rw [hl, hu])) (handed_of ru) ⟨v, H1, I1.tok _, ru, q⟩
end
end L2

namespace Pyp
open PySem PySem.Spec PyProof.Rows L2
/-- an error of the class at S is what «except S» names -/
theorem exm_self {K : PySem.W.Frag} {S : Addr} (h1 : PySem.W.subIn K (.ref S) (.type "BaseException") = some true) (h2 : PySem.W.isClsIn K S = true) (h3 : PySem.W.typeIn K (.ref S) = some (.type "type")) (h4 : PySem.W.subIn K (.ref S) (.ref S) = some true) :
    PySem.W.exmOne K (.ref S) (.ref S) = some true := by
  have e1 : (PySem.W.subIn K (.ref S) (.type "BaseException") == some true) = true := by rw [h1] <;> rfl
  have e2 : ((PySem.W.clsIn K S).isSome && PySem.W.typeIn K (.ref S) == some (.type "type")) = true := by
    have h2' : (PySem.W.clsIn K S).isSome = true := h2
    rw [h2', h3] <;> rfl
  show (if (PySem.W.subIn K (.ref S) (.type "BaseException") == some true) = true then (if ((PySem.W.clsIn K S).isSome && PySem.W.typeIn K (.ref S) == some (.type "type")) = true then PySem.W.subIn K (.ref S) (.ref S) else none) else none) = some true
  rw [if_pos e1, if_pos e2]
  exact h4
section
variable {X : Cx} {W : WX} {e : Expr} {x : Ex} {pos p p2 p3 p4 pos2 np pos' : Pos} {C fI : Addr}
/-- raise NoPlace(e) -/
def sRaise (c f : Str) (x : Ex) : Sx := fun env ph => (x env ph).bindS env fun v ph1 => match v.dat with
  | some d => .exc c [(f, d)] env ph1
  | none => .bad
theorem st_raise {k : Nat} (hc : X.calm = true) (T : PySem.LowX.LowTxt X.K X.mg C fI) (hr : Room k X.A) (tk : Takes X W) (he : SE X W e x) (hg : Gl X "NoPlace" := by rfl)
    (hst : starEach (e :: []) X.env = (false, eval e X.env) :: starEach [] X.env := by rfl) (hpl : (backTo pos (starEach [] X.env)).any (·.1) = false := by rfl) :
    SS X W (.Raise (some (.Call (.Name "NoPlace" p) [e] [] pos)) none pos2) (sRaise "NoPlace" "place" x) := ⟨fun M0 H0 hd M m σ H env ph s D q =>
  tWS_of (ps_raiseLow hc T hr tk (pa_cons tW_pe pa_nil hst) hg hst hpl) (by
    refine he.bindS s q fun val ph1 v H1 fr s1 rv _ q1 => ?_
    split at q1
    · rename_i d ed
      refine ⟨v, rfl, fun dd hdd => ?_⟩
      have f1 : Frame m H1 (upd H1 dd (.xd [(("place" : Str), v)])) := Frame.new hdd
      exact q1 M σ _ _ _ (s1.keep f1 (s1.rel.new hdd)) ⟨C, T.gC, rfl, dd, v, rfl, upd_same, Rep.keep (f1.keep s1.rel) _ _ (rv.dat ed)⟩
    · exact q1.elim)⟩
/-- try: b; except NoPlace as n: return [tag, n.place] -/
def tryF (c f : Str) (tag : List Nat) (c' : Str) (fs : List (Str × D)) (ph2 : PH) : Out := if c' = c then match fs with
    | [(f', d)] => if f' = f then .ret (.own (.lst [.str tag, d])) ph2 else .bad
    | _ => .bad else .bad
def sTryF (c f : Str) (tag : List Nat) (b : Sx) : Sx := fun env ph => match b env ph with
  | .exc c' fs _ ph2 => tryF c f tag c' fs ph2
  | o => o
theorem st_tryF {n : Str} {i : Nat} {body : List Stmt} {b : Sx} {tag : Str} {tg : List Nat} {j : Nat} (hs : X.stack = X.env :: X.outer) (hf : X.env.frame = some X.env.locals) (hN : X.N.Nodup) (hi : X.N[i]? = some n) (hln : X.env.kindOf n = some .local) (T : PySem.LowX.LowTxt X.K X.mg C fI)
    (tk : Takes X W) (htag : tag = ⟨tg.toArray⟩) (hv : Vis X.env.scope n) (hd : (n == ("__debug__" : Str)) = false) (hcd : (n == ("__classdict__" : Str)) = false) (hg : Gl X "NoPlace" := by rfl)
    (hb : ∀ (W : WX) (pn : List (Addr × Obj)) (xe : Value → Shared → Prop), Takes (X.tr pn xe) W → PassesOwn (model X.prog X.w) X.A X.env xe → SB (X.tr pn xe) W body b)
    (ha : attributeBase (.Name n p2) "place" X.env (eval (.Name n p2) X.env) = eval (.Name n p2) X.env := by rfl)
    (hst : starEach [.Constant (.str tag) j p, .Attribute (.Name n p2) "place" p3] X.env = (false, eval (.Constant (.str tag) j p) X.env) :: starEach [.Attribute (.Name n p2) "place" p3] X.env := by rfl)
    (hst2 : starEach [.Attribute (.Name n p2) "place" p3] X.env = (false, eval (.Attribute (.Name n p2) "place" p3) X.env) :: starEach [] X.env := by rfl) :
    SS X W (.Try body [.ExceptHandler (some (.Name "NoPlace" np)) (some n) [.Return (some (.List [.Constant (.str tag) j p, .Attribute (.Name n p2) "place" p3] p4)) pos2] pos'] [] [] pos) (sTryF "NoPlace" "place" tg b) := ⟨fun M0 H0 hd' M m σ H env ph s D q => by
  refine tWS_of (ps_try_as (c := .ref C) (i := i) (tb := fun W' => fun D σ H => ∀ pn xe, Takes (X.tr pn xe) W' → PassesOwn (model X.prog X.w) X.A X.env xe → tWB (X.tr pn xe) body D σ H)
    (ts := fun a cls d => fun D σ H => ∀ oe pn, Zc cls d oe → (∃ vs, oe.data = .fields vs) → tWB (X.suite a ((a, oe) :: pn)) _ D σ H) hs hf hN hi hln ⟨hg, by decide, .inl T.gC⟩ tk
    (fun W' pn xe tk' po => ⟨fun pins st σ H D I h => h pn xe tk' po pins st I⟩) (fun a oe cls d pn hz hf' => ⟨fun pins st σ H D I h => h oe pn hz hf' pins st I⟩)) ?_
  intro pn xe tk' po
  refine (hb _ pn xe tk' po).run M0 H0 hd' M m σ H env ph s D ?_
  unfold sTryF at q
  cases hbo : b env ph with
  | exc c' fs env2 ph2 =>
    rw [hbo] at q
    have q2 : PostS X W M0 H0 hd' m D (tryF "NoPlace" "place" tg c' fs ph2) := q
    clear q
    unfold tryF at q2
    split at q2
    · rename_i ec
      split at q2
      · rename_i f d
        split at q2
        case isFalse => exact q2.elim
        rename_i ef
        subst ef
        refine fun M' σ' H' cls dd s' ex => ?_
        obtain ⟨C', e1, e2, dd', v, e3, e4, rv⟩ := ex
        have eC : C' = C := by
          have h1 : X.mg c' = some (.ref C') := e1
          rw [ec, T.gC] at h1
          cases h1; rfl
        subst eC e2 e3
        refine ⟨true, T.te, fun _ a hna => ?_, fun z => nomatch z⟩
        intro oe pn' hz hf' pins st I
        have hlen : i < σ'.length := by
          have h1 := I.len
          rw [List.length_set] at h1
          rw [h1]
          exact (List.getElem?_eq_some_iff.mp hi).1
        refine (pss_one (ps_ret (pe_lst (pa_cons pe_str (pa_cons (pe_byLow T hz hf' (pe_var (X := X.suite a ((a, oe) :: pn')) hi hv hd hcd) ha) pa_nil hst2) hst)))).run pins st _ _ _ I ?_
        refine ⟨_, List.getElem?_set_self hlen, rfl, rfl, dd', v, rfl, e4, show 2 ≤ sizeLine by decide, fun pp hpp => ?_⟩
        have r0 : Rel X.K M0 m H' ph2 := s'.rel.anti s'.sub s'.mem
        have rs : Reps X.K M0 H' [.str tg, d] [.str tag, v] := .cons (by rw [Rep, htag]) (.cons (Rep.anti s'.sub _ _ rv) Reps.nil)
        exact q2 (.ref pp) _ (s'.fr.trans (Frame.new hpp)) (r0.new hpp) (own_new r0 hpp (s'.fr.back r0 hpp) rs) (own_ro r0 hpp rs)
      · exact q2.elim
    · exact q2.elim
  | nx env2 ph2 => rw [hbo] at q; exact q
  | ret v ph2 => rw [hbo] at q; exact q
  | bk env2 ph2 => rw [hbo] at q; exact q
  | ct env2 ph2 => rw [hbo] at q; exact q
  | bad => rw [hbo] at q; exact q.elim⟩
end
end Pyp

/-! Soft forms; two or three names at once. -/
namespace Pyp
open PySem PySem.Spec PyProof.Rows L2

theorem Room.u65 {k : Nat} {A : Around} (r : Room k A) : A.units + 65 < cLine := by have := r.un; omega
section
variable {X : Cx} {W : WX} {st : Stmt} {rest : List Stmt} {x y : Sx} {e a b c : Expr} {xe : Ex} {pos : Pos}
theorem b_never : SB X W rest sBad := ⟨fun M0 H0 hd M m σ H env ph s D q => q.elim⟩
/-- a local list, if the name holds one, becomes data -/
def sFz (i : Nat) (s : Sx) : Sx := fun env ph => match env[i]? with
  | some (some (.own x)) => s (env.set i (some (.d x))) ph
  | _ => s env ph
theorem st_fz (i : Nat) (h : SB X W rest x) : SB X W rest (sFz i x) := ⟨fun M0 H0 hd M m σ H env ph s D q => by
  unfold sFz at q
  split at q
  · rename_i y e
    obtain ⟨M', s'⟩ := s.frz e
    exact h.run M0 H0 hd M' m σ H _ ph s' D q
  · exact h.run M0 H0 hd M m σ H env ph s D q⟩
/-- name = e: a list just made stays the name's own -/
def varEnd (i : Nat) (env : Env) (v : Val) (ph1 : PH) : Out := match v with
  | .own d => .nx (env.set i (some (.own d))) ph1
  | .d d => .nx (env.set i (some (.d d))) ph1
  | _ => .bad
def sVar (i : Nat) (x : Ex) : Sx := fun env ph => (x env ph).bindS env (varEnd i env)
theorem var_core {i : Nat} {M0 M : Addr → Prop} {H0 H H1 : Hp} {hd m σ env ph} {ph1 : PH} {val : Val} {v : V} {D : Ends} (s : StR X.K M0 H0 hd M m σ H env ph) (fr : Frame m H H1) (s1 : StR X.K M0 H0 hd M m σ H1 env ph1) (rv : RV X.K M m H H1 v val) (ro : RO X.K M m H1 ph1 v val)
    (q1 : PostS X W M0 H0 hd m D (varEnd i env val ph1)) : gName i v σ H1 D.nx := by
  cases val with
  | own d =>
    obtain ⟨a, rfl, h1, h2, h3⟩ := rv
    obtain ⟨ra, ca⟩ := ro d rfl a rfl
    exact q1 _ _ H1 (s.setOwn fr ra ca h1 h2)
  | d d => exact q1 M _ H1 (s1.setD rv)
  | _ => exact q1.elim
variable {i : Nat} {n : Str} {pos' : Pos}
theorem st_var (hN : X.N.Nodup) (hi : X.N[i]? = some n) (hx : Loc X.env.scope n) (h : SE X W e xe) (hs : swapsWith e (some (.Name n pos')) pos.line X.env = pure false := by rfl) (hf : X.fn n = true ∨ X.env.scope.names.lookup n = some .local := by first | exact .inl rfl | exact .inr rfl | assumption) :
    SS X W (.Assign [.Name n pos'] e pos) (sVar i xe) := ⟨fun M0 H0 hd M m σ H env ph s D q => tWS_of (ps_set hN hi hx tW_pe hs hf) (h.bindS s q fun val ph1 v H1 fr s1 rv ro q1 => var_core s fr s1 rv ro q1)⟩
/-- a, b = x, y; a, b, c = x, y, z: data -/
def sPar (is : List Nat) (xs : Ax) : Sx := fun env ph => (xs env ph).bindS env fun vs ph1 => match is, dats vs with
  | [i, j], some [d, e] => .nx ((env.set i (some (.d d))).set j (some (.d e))) ph1
  | [i, j, k], some [d, e, f] => .nx (((env.set i (some (.d d))).set j (some (.d e))).set k (some (.d f))) ph1
  | _, _ => .bad
variable {j l : Nat} {u v w : Str} {px py pz pt : Pos} {kt k2 : Nat} {pt2 : Pos} {xs : Ax}
theorem st_par2 (hc : X.calm = true) (hN : X.N.Nodup) (hi : X.N[i]? = some u) (hj : X.N[j]? = some v) (hij : i ≠ j) (hx : X.env.scope.names.lookup u = some .local) (hy : X.env.scope.names.lookup v = some .local) (h : SA X W [a, b] xs)
    (hw : swappedStores [.Tuple [.Name u px, .Name v py] kt pt] (.Tuple [a, b] k2 pt2) X.env = pure (some [u, v])) (hs : swapsWithSole [.Tuple [.Name u px, .Name v py] kt pt] (.Tuple [a, b] k2 pt2) pos.line X.env = pure false := by rfl) :
    SS X W (.Assign [.Tuple [.Name u px, .Name v py] kt pt] (.Tuple [a, b] k2 pt2) pos) (sPar [i, j] xs) := ⟨fun M0 H0 hd M m σ H env ph s D q => tWS_of (ps_par hc hN hi hj hij hx hy tWA_pa hw hs) (by
  refine h.bindS s q fun vals ph1 vs H1 fr s1 rv q1 => ?_
  split at q1
  · rename_i i' j' d e h1 ed
    cases h1
    have r := rv.dats ed
    rw [Reps] at r
    obtain ⟨x1, xs1, rfl, r1, r⟩ := r
    rw [Reps] at r
    obtain ⟨x2, xs2, rfl, r2, r⟩ := r
    rw [Reps] at r
    subst r
    exact ⟨x1, x2, rfl, q1 M _ H1 ((s1.setD r1).setD r2)⟩
  · rename_i h1 ed
    cases h1
  · exact q1.elim)⟩
theorem st_par3 (hc : X.calm = true) (hN : X.N.Nodup) (hi : X.N[i]? = some u) (hj : X.N[j]? = some v) (hl : X.N[l]? = some w) (hij : i ≠ j) (hil : i ≠ l) (hjl : j ≠ l) (hx : X.env.scope.names.lookup u = some .local) (hy : X.env.scope.names.lookup v = some .local) (hz : X.env.scope.names.lookup w = some .local) (h : SA X W [a, b, c] xs)
    (hw : swappedStores [.Tuple [.Name u px, .Name v py, .Name w pz] kt pt] (.Tuple [a, b, c] k2 pt2) X.env = pure (some [u, v, w])) (hs : swapsWithSole [.Tuple [.Name u px, .Name v py, .Name w pz] kt pt] (.Tuple [a, b, c] k2 pt2) pos.line X.env = pure false := by rfl) :
    SS X W (.Assign [.Tuple [.Name u px, .Name v py, .Name w pz] kt pt] (.Tuple [a, b, c] k2 pt2) pos) (sPar [i, j, l] xs) := ⟨fun M0 H0 hd M m σ H env ph s D q => tWS_of (ps_par3 hc hN hi hj hl hij hil hjl hx hy hz tWA_pa hw hs) (by
  refine h.bindS s q fun vals ph1 vs H1 fr s1 rv q1 => ?_
  split at q1
  · rename_i h1 ed
    cases h1
  · rename_i i' j' k' d e f h1 ed
    cases h1
    have r := rv.dats ed
    rw [Reps] at r
    obtain ⟨x1, xs1, rfl, r1, r⟩ := r
    rw [Reps] at r
    obtain ⟨x2, xs2, rfl, r2, r⟩ := r
    rw [Reps] at r
    obtain ⟨x3, xs3, rfl, r3, r⟩ := r
    rw [Reps] at r
    subst r
    exact ⟨x1, x2, x3, rfl, q1 M _ H1 (((s1.setD r1).setD r2).setD r3)⟩
  · exact q1.elim)⟩
end

/-! ### a or b, a of any sort -/
def truD : D → Option Bool
  | .non => some false
  | .bl b => some b
  | .int i => some (i != 0)
  | .tup ds => some (!ds.isEmpty)
  | .lst ds => some (!ds.isEmpty)
  | _ => none
theorem isEmpty_reps {K M H} {ds : List D} {xs : List V} (r : Reps K M H ds xs) : xs.isEmpty = ds.isEmpty := by
  have := r.length
  cases ds <;> cases xs <;> simp_all
theorem truD_v {K M H d v b} (h : CR K M H d v) (e : truD d = some b) : TruV K v H b := by
  cases d with
  | non => rw [cr_non h]; cases e; rfl
  | bl b => rw [cr_bl h]; cases e; rfl
  | int i => rw [cr_int h]; cases e; rfl
  | tup ds =>
    obtain ⟨a, xs, rfl, t, r⟩ := cr_tup h
    cases e
    exact .inr (.inl ⟨xs, t.sq, by rw [isEmpty_reps r]⟩)
  | lst ds =>
    obtain ⟨a, xs, rfl, t, r⟩ := cr_lst h
    cases e
    exact .inl ⟨xs, SqL.of t, by rw [isEmpty_reps r]⟩
  | _ => cases e
section
variable {X : Cx} {W : WX} {a b : Expr} {xa xb : Ex} {ta tb : TE} {rest : List Expr} {pos : Pos}
theorem pe_orT (ha : PE X a ta) (hb : PE X (.BoolOp .Or (b :: rest) pos) tb) : PE X (.BoolOp .Or (a :: b :: rest) pos) (fun σ H Q => ta σ H fun x H1 => ∃ k, TruV X.K x H1 k ∧ if k = true then Q x H1 else tb σ H1 Q) := by
  refine ⟨fun pins s σ H Q I h => ?_⟩
  refine BoolOp_or (thn (ha.run pins s σ H _ I h) fun v s1 hh => ?_)
  obtain ⟨x, H1, I1, r1, k, tv, q1⟩ := hh
  refine wpAny_mono (tru_ok pins s1 σ H1 x v (fun k' H2 => k' = k ∧ H2 = H1) I1 r1 ⟨k, tv, rfl, rfl⟩) (fun c s2 hc => ?_) fun _ _ z => z
  obtain ⟨H2, I2, e1, e2⟩ := hc
  subst e1 e2
  cases c with
  | false => exact hb.run pins s2 σ H2 Q I2 q1
  | true => exact ⟨x, H2, I2, r1, q1⟩
def orEnd (v : Val) (y : Ex) (env : Env) (ph1 : PH) : Res Val := match (v.cont ph1).bind truD with
  | some true => .ok v ph1
  | some false => y env ph1
  | none => .bad
def eOrT (x y : Ex) : Ex := fun env ph => (x env ph).bind fun v ph1 => orEnd v y env ph1
theorem s_orT (ha : SE X W a xa) (hb : SE X W (.BoolOp .Or (b :: rest) pos) xb) : SE X W (.BoolOp .Or (a :: b :: rest) pos) (eOrT xa xb) := ⟨fun M m σ H env ph r er Q q => tW_of (pe_orT tW_pe tW_pe) (by
  have q' : Post X W M m σ H (GE X M m H Q) ((xa env ph).bind fun v ph1 => orEnd v xb env ph1) := q
  refine ha.run M m σ H env ph r er _ ?_
  cases hx : xa env ph with
  | bad => rw [hx] at q'; exact q'
  | exc c fs ph1 => rw [hx] at q'; exact q'
  | ok v ph1 =>
    rw [hx] at q'
    intro w H1 fr r1 rv ro
    have q2 : Post X W M m σ H (GE X M m H Q) (orEnd v xb env ph1) := q'
    unfold orEnd at q2
    cases hc : v.cont ph1 with
    | none => rw [hc] at q2; exact q2.elim
    | some d =>
      rw [hc, Option.bind_some] at q2
      cases ht : truD d with
      | none => rw [ht] at q2; exact q2.elim
      | some k =>
        rw [ht] at q2
        refine ⟨k, truD_v (rv.cr r1 hc) ht, ?_⟩
        cases k with
        | true => rw [if_pos rfl]; exact q2 w H1 fr r1 rv ro
        | false =>
          rw [if_neg Bool.false_ne_true]
          exact hb.run M m σ H1 env ph1 r1 (er.keep r fr) Q (Post.mono (fun _ _ g => GE.at fr r1 g) (Post.step fr q2)))⟩
end

/-! ### a def of the top, as it stands behind it -/
structure DefAt (K : PySem.W.Frag) (mg : Str → Option Value) (name : Str) (st : Stmt) (ps : List Str) : Prop where
  ex : ∃ (f : Addr) (fd : FuncData), Fun K name name st f fd ∧ mg name = some (.ref f) ∧ Binds K fd ps []
theorem DefAt.fn {P : Program} {w : World} {K : PySem.W.Frag} {mg : Str → Option Value} {base : Heap} {x : Str} {st : Stmt} {N ps : List Str} {k : Nat} {body : Sx} (F : DefAt K mg x st ps) (S : FnScope N ps (defScope st))
    (hbody : ∀ (f : Addr) (cdv : Value) (A : Around) (outer : List PySem.Env) (s : Shared) (H : Hp) (E : XK), Room k (A.deeper (PyProof.Rows.envOfC x (defScope st) s.heap.objs.size f cdv)) →
      SB (cxOf (L2.CX P w) P w K mg base N x (defScope st) f cdv A outer s H E) (fun cls d _ H => E cls d H) (defBody st) body) : FnAt P w K mg base (k + 1) x ps.length (runF N.length body) := by
  obtain ⟨f, fd, F1, hm, hb⟩ := F.ex
  exact fn_at F1 S hm hb (hbody f)
/-! ### the law -/
def spL (K : PySem.W.Frag) (f : Fn) : Sp := fun vs H Q E => ∃ (a : Addr) (ns : List Int), vs = [V.ref a] ∧ SqL K H a (ns.map V.int) ∧ (∃ ph, f [.d (.fz ns)] [] = .ok (.d (.bl true)) ph) ∧ ∀ H', Q (.bl true) H'
theorem spL_of {K : PySem.W.Frag} {f : Fn} {H : Hp} {a : Addr} {ns : List Int} (hp : ∀ ns : List Int, ns.length ≤ 63 → ∃ ph, f [.d (.fz ns)] [] = .ok (.d (.bl true)) ph) (hl : ns.length ≤ 63) (hS : SqL K H a (ns.map V.int)) : spL K f [.ref a] H (fun v _ => v = .bl true) fun _ _ _ => False :=
  ⟨a, ns, rfl, hS, hp ns hl, fun _ => rfl⟩
theorem law_at {P : Program} {w : World} {K : PySem.W.Frag} {mg : Str → Option Value} {base : Heap} {x : Str} {st : Stmt} {f : Addr} {fd : FuncData} {N : List Str} {y : Str} {k : Nat} {body : Sx} (F : Fun K x x st f fd) (S : FnScope N [y] (defScope st))
    (hbody : ∀ (f : Addr) (cdv : Value) (A : Around) (outer : List PySem.Env) (s : Shared) (H : Hp) (E : XK), Room k (A.deeper (PyProof.Rows.envOfC x (defScope st) s.heap.objs.size f cdv)) →
      SB (cxOf (L2.CX P w) P w K mg base N x (defScope st) f cdv A outer s H E) (fun cls d _ H => E cls d H) (defBody st) body) : FnOk P w K mg base (L2.CX P w) (k + 1) f fd [y] (spL K (runF N.length body)) := by
  refine F.okX S (fun vs H Q E h => by obtain ⟨a, ns, rfl, _⟩ := h; rfl) (fun cdv A outer s H vs Q E hr h => ?_)
  obtain ⟨a, ns, rfl, hS, ⟨ph, hp⟩, q⟩ := h
  have r : Rel K (fun _ => False) [] H [] := ⟨rfl, .nil, fun _ z => (by cases z), fun _ z => z.elim, fun n a d e => by simp at e⟩
  have ia : ∀ y ∈ [Val.d (.fz ns)], IsArg y := fun y hy => by
    have : y = .d (.fz ns) := by simpa using hy
    subst this; exact trivial
  have rv : RVs K (fun _ => False) [] H H [V.ref a] [Val.d (.fz ns)] := ⟨.ref a, [], rfl, (by
    show Rep K _ H (.fz ns) (.ref a)
    rw [Rep]
    exact ⟨a, rfl, hS.imp (fun h => ⟨fun z => z, h⟩) id⟩), rfl⟩
  obtain ⟨er, no⟩ := start_rel (N := N) rv ia
  refine ⟨_, tWB_ps, (hbody f cdv A outer s H E hr).run (fun _ => False) H (fun _ _ => False) (fun _ => False) [] _ H _ [] ⟨r, er, by unfold L2.start; simp, fun _ z => z, r.sub, Frame.refl, fun i x a e => absurd e (no i x), fun i j x y a _ e => absurd e (no i x), fun _ _ z => z.elim⟩ _ ?_⟩
  unfold runF at hp
  cases hb : body ([Val.d (.fz ns)].map some ++ List.replicate (N.length - [Val.d (.fz ns)].length) none) [] with
  | ret v ph' =>
    rw [hb] at hp
    cases hp
    intro w H' _ _ rv' _
    rw [RV, Rep] at rv'
    subst rv'
    exact q H'
  | nx env' ph' => rw [hb] at hp; cases hp
  | exc c fs env' ph' => rw [hb] at hp; cases hp
  | bk env' ph' => rw [hb] at hp; cases hp
  | ct env' ph' => rw [hb] at hp; cases hp
  | bad => rw [hb] at hp; cases hp
theorem cx_false {P : Program} (w : World) (H : Hp) (s : Shared) (e : Value) (s' : Shared) (h : L2.CX P w [] H s (fun _ _ _ => False) e s') : False := by
  obtain ⟨a, B, H', cls, d, _, _, _, _, _, _, _, z⟩ := h
  exact z
end Pyp

/-! Two names at once, either of them the holder of a list just made. -/
namespace Pyp
open PySem PySem.Spec PyProof.Rows L2
section
variable {K : PySem.W.Frag} {M0 M : Addr → Prop} {H0 H : Hp} {hd : V → D → Prop} {m : List Addr} {σ : L2.St} {env : Env} {ph : PH} {i : Nat} {d : D} {v : V} {a : Addr}
/-- one address more is kept from sharing -/
theorem StR.more {phs : PH} {Hs : Hp} (s : StR K M0 H0 hd M m σ Hs env phs) (f : Frame m Hs H) (r : Rel K (MAdd M a) m H ph) (c : Cont K (MAdd M a) H a d) (ha : Hs a = none) (nm : ¬ M a) : StR K M0 H0 hd (MAdd M a) m σ H env ph := by
  have q := s.setOwn (i := env.length) (d := d) f r c ha nm
  rw [List.set_eq_of_length_le (by rw [s.len]; exact Nat.le_refl _), List.set_eq_of_length_le (Nat.le_refl _)] at q
  exact q
end
section
variable {X : Cx} {W : WX} {a b : Expr} {xa xb : Ex} {pos : Pos} {i j : Nat} {u v : Str} {px py pt : Pos} {kt k2 : Nat} {pt2 : Pos}
def parEnd (i j : Nat) (env : Env) (v w : Val) (ph : PH) : Out := (varEnd i env v ph).bind fun env1 ph1 => varEnd j env1 w ph1
def sParV (i j : Nat) (x y : Ex) : Sx := fun env ph => (x env ph).bindS env fun v ph1 => (y env ph1).bindS env fun w ph2 => parEnd i j env v w ph2
/-- both ends of a row of two -/
theorem par_core (hij : i ≠ j) {M0 H0 hd M m σ H env ph} (ha : SE X W a xa) (hb : SE X W b xb) (s : StR X.K M0 H0 hd M m σ H env ph) {D : Ends} (q : PostS X W M0 H0 hd m D (sParV i j xa xb env ph)) :
    tW X a σ H fun x H1 => tW X b σ H1 fun y H2 => ∃ v w, [x, y] = [v, w] ∧ D.nx ((σ.set i (some v)).set j (some w)) H2 := by
  refine ha.bindS s q fun val ph1 v H1 fr s1 rv ro q1 => ?_
  cases val with
  | own d =>
    obtain ⟨a1, rfl, n1, m1, c1⟩ := rv
    obtain ⟨ra, ca⟩ := ro d rfl a1 rfl
    have s1' := s.more fr ra ca n1 m1
    have s3 := s.setOwn (i := i) fr ra ca n1 m1
    refine hb.bindS s1' q1 fun val2 ph2 v2 H2 fr2 s2 rv2 ro2 q2 => ?_
    cases val2 with
    | own d2 =>
      obtain ⟨a2, rfl, n2, m2, c2⟩ := rv2
      obtain ⟨r2, c2'⟩ := ro2 d2 rfl a2 rfl
      exact ⟨_, _, rfl, q2 _ _ H2 (s3.setOwn (i := j) fr2 r2 c2' n2 m2)⟩
    | d d2 => exact ⟨_, _, rfl, q2 _ _ H2 ((s3.keep fr2 s2.rel).setD rv2)⟩
    | _ => exact q2.elim
  | d d =>
    have s3 := s1.setD (i := i) rv
    refine hb.bindS s1 q1 fun val2 ph2 v2 H2 fr2 s2 rv2 ro2 q2 => ?_
    cases val2 with
    | own d2 =>
      obtain ⟨a2, rfl, n2, m2, c2⟩ := rv2
      obtain ⟨r2, c2'⟩ := ro2 d2 rfl a2 rfl
      exact ⟨_, _, rfl, q2 _ _ H2 (s3.setOwn (i := j) fr2 r2 c2' n2 m2)⟩
    | d d2 => exact ⟨_, _, rfl, q2 _ _ H2 ((s3.keep fr2 s2.rel).setD rv2)⟩
    | _ => exact q2.elim
  | bor d =>
    refine hb.bindS s1 q1 fun val2 ph2 v2 H2 fr2 s2 rv2 ro2 q2 => ?_
    exact q2.elim
  | ref k =>
    refine hb.bindS s1 q1 fun val2 ph2 v2 H2 fr2 s2 rv2 ro2 q2 => ?_
    exact q2.elim
theorem st_parV (hc : X.calm = true) (hN : X.N.Nodup) (hi : X.N[i]? = some u) (hj : X.N[j]? = some v) (hij : i ≠ j) (hx : X.env.scope.names.lookup u = some .local) (hy : X.env.scope.names.lookup v = some .local) (ha : SE X W a xa) (hb : SE X W b xb)
    (hw : swappedStores [.Tuple [.Name u px, .Name v py] kt pt] (.Tuple [a, b] k2 pt2) X.env = pure (some [u, v])) (hs : swapsWithSole [.Tuple [.Name u px, .Name v py] kt pt] (.Tuple [a, b] k2 pt2) pos.line X.env = pure false := by rfl)
    (h1 : starEach [a, b] X.env = (false, eval a X.env) :: starEach [b] X.env := by rfl) (h2 : starEach [b] X.env = (false, eval b X.env) :: starEach [] X.env := by rfl) :
    SS X W (.Assign [.Tuple [.Name u px, .Name v py] kt pt] (.Tuple [a, b] k2 pt2) pos) (sParV i j xa xb) := ⟨fun M0 H0 hd M m σ H env ph s D q => tWS_of (ps_par hc hN hi hj hij hx hy (pa_cons tW_pe (pa_cons tW_pe pa_nil h2) h1) hw hs) (by
  refine fun pins st I => ?_
  exact (tW_pe (X := X) (e := a)).run pins st σ H _ I (by
    have := par_core hij ha hb s q
    exact this))⟩
end
end Pyp

/-! x.append(y.pop(i)), x and y own lists. -/
namespace Pyp
open PySem PySem.Spec PyProof.Rows L2
section
variable {X : Cx} {W : WX} {e : Expr} {es : List Expr} {xs : Ax}
def appPop (i j : Nat) (ds es : List D) (z : Int) (env : Env) (ph : PH) : Out := match ixN es.length z with
  | some k => match es[k]? with
    | some d => if es.length ≤ lim ∧ ds.length < lim then .nx ((env.set j (some (.own (.lst (es.eraseIdx k))))).set i (some (.own (.lst (ds ++ [d]))))) ph else .bad
    | none => .bad
  | none => .bad
def sAppPop (i j : Nat) (xs : Ax) : Sx := fun env ph => match env[i]?, env[j]? with
  | some (some (.own (.lst ds))), some (some (.own (.lst es))) => (xs env ph).bindS env fun vs ph1 => match dats vs with
    | some [.int z] => appPop i j ds es z env ph1
    | _ => .bad
  | _, _ => .bad
theorem appPop_core (i j : Nat) (hij : i ≠ j) {n u : Str} (h : SA X W es xs) {M0 H0 hd M m σ H env ph} (s : StR X.K M0 H0 hd M m σ H env ph) {D : Ends} (q : PostS X W M0 H0 hd m D (sAppPop i j xs env ph)) :
    ∃ w, σ[i]? = some (some w) ∧ tyV X.K "list" w H ∧ ∃ w2, σ[j]? = some (some w2) ∧ tyV X.K "list" w2 H ∧ tWA X es σ H fun vs H2 => rPopAt w2 vs H2 fun y H3 => rWM X "list.append" w [y] H3 fun _ H4 => D.nx σ H4 := by
  unfold sAppPop at q
  split at q
  · rename_i ds es0 ei ej
    obtain ⟨v, e1, a, rfl, ma, am, xsv, hH, rs⟩ := s.er.2 i _ ei
    obtain ⟨v2, e2, b, rfl, mb, bm, ysv, hB, rs2⟩ := s.er.2 j _ ej
    refine ⟨_, e1, .inl ⟨rfl, xsv, SqL.of hH⟩, _, e2, .inl ⟨rfl, ysv, SqL.of hB⟩, h.bindS s q fun vals ph1 vs H1 fr s1 rv q1 => ?_⟩
    split at q1
    · rename_i z ed
      have re := rv.dats ed
      rw [Reps] at re
      obtain ⟨y, ys, rfl, r1, r2⟩ := re
      rw [Reps] at r2
      subst r2
      rw [Rep] at r1
      subst r1
      unfold appPop at q1
      split at q1
      · rename_i k hk
        split at q1
        · rename_i d hd'
          split at q1
          · rename_i hl
            obtain ⟨h1, h2, h3, h4⟩ := ixN_seq hk
            have hB1 := fr b _ hB bm
            have rs2' := Reps.keep (fr.keep s.rel) _ _ rs2
            have hl1 : es0.length ≤ 1000000 := hl.1
            obtain ⟨y, ey, ry⟩ := rs2'.get hd'
            refine ⟨b, ysv, z, k, y, rfl, rfl, hB1, by omega, by omega, by rw [rs2'.length]; exact h1, ey, ?_⟩
            have cc : Cont X.K M (upd H1 b (.lst (ysv.eraseIdx k))) b (.lst (es0.eraseIdx k)) := ⟨ysv.eraseIdx k, upd_same, Reps.keep (upd_keep mb) _ _ (rs2'.erase k)⟩
            have s2 := s1.mutOwn (y := .lst (es0.eraseIdx k)) ej e2 (fun c o hc z => by rw [upd_ne hc]; exact z) cc
            have ei' : (env.set j (some (Val.own (.lst (es0.eraseIdx k)))))[i]? = some (some (.own (.lst ds))) := by
              rw [List.getElem?_set_ne (Ne.symm hij)]; exact ei
            intro pins st σ' v' us I rx rxs
            obtain ⟨v3, e3, a3, ea, ma3, am3, xs3, hH3, rs3⟩ := s2.er.2 i _ ei'
            rw [e1] at e3
            cases e3
            cases ea
            have hl2 : ds.length < 1000000 := hl.2
            refine mt_append pins st σ' _ _ _ v' us _ I rx rxs ⟨a, xs3, y, rfl, rfl, hH3, by rw [rs3.length]; exact lim_lt (Nat.le_of_lt hl2), ?_⟩
            exact q1 _ σ _ (s2.mutOwn ei' e1 (fun c o hc z => by rw [upd_ne hc]; exact z) ⟨xs3 ++ [y], upd_same, Reps.keep (upd_keep ma3) _ _ (rs3.append (.cons (Rep.keep (upd_keep mb) _ _ ry) Reps.nil))⟩)
          · exact q1.elim
        · exact q1.elim
      · exact q1.elim
    · exact q1.elim
  · exact q.elim
theorem st_appPop {n u nm1 nm2 : Str} {p1 p2 ap1 ap2 cp1 cp2 pos : Pos} {ie : Expr} (slot : Slot "list" nm1 "list.append") (slot2 : Slot "list" nm2 "list.pop") (hty : typeOf (.builtin "list.append") = pure (.type "method_descriptor")) (hty2 : typeOf (.builtin "list.pop") = pure (.type "method_descriptor"))
    (i j : Nat) (hij : i ≠ j) (h : SA X W [ie] xs) (hN : X.N[i]? = some n := by rfl) (hN2 : X.N[j]? = some u := by rfl)
    (hv : Vis X.env.scope n := by first | exact Or.inl rfl | exact Or.inr (Or.inl rfl) | exact Or.inr (Or.inr rfl)) (hv2 : Vis X.env.scope u := by first | exact Or.inl rfl | exact Or.inr (Or.inl rfl) | exact Or.inr (Or.inr rfl))
    (hd : (n == ("__debug__" : Str)) = false := by decide) (hcd : (n == ("__classdict__" : Str)) = false := by decide) (hd2 : (u == ("__debug__" : Str)) = false := by decide) (hcd2 : (u == ("__classdict__" : Str)) = false := by decide)
    (hs : swapsWith (.Call (.Attribute (.Name n p1) nm1 ap1) [.Call (.Attribute (.Name u p2) nm2 ap2) [ie] [] cp2] [] cp1) none pos.line X.env = pure false := by rfl)
    (hb1 : attributeBase (.Name n p1) nm1 X.env (eval (.Name n p1) X.env) = eval (.Name n p1) X.env := by rfl) (hb2 : attributeBase (.Name u p2) nm2 X.env (eval (.Name u p2) X.env) = eval (.Name u p2) X.env := by rfl)
    (hl1 : (ap1.endLine == cp1.line) = true := by rfl) (hl2 : (ap2.endLine == cp2.line) = true := by rfl)
    (hf1 : ((backTo cp1 (starEach [.Call (.Attribute (.Name u p2) nm2 ap2) [ie] [] cp2] X.env)).all (fun x => !x.1) && (backToKw cp1 (keywordEach [] X.env)).all (fun x => x.1.isSome) && decide (1 + ([] : List Keyword).length + (if ([] : List Keyword).isEmpty then 0 else 1) < 30)) = true := by rfl)
    (hf2 : ((backTo cp2 (starEach [ie] X.env)).all (fun x => !x.1) && (backToKw cp2 (keywordEach [] X.env)).all (fun x => x.1.isSome) && decide (1 + ([] : List Keyword).length + (if ([] : List Keyword).isEmpty then 0 else 1) < 30)) = true := by rfl)
    (hst1 : starEach [.Call (.Attribute (.Name u p2) nm2 ap2) [ie] [] cp2] X.env = (false, eval (.Call (.Attribute (.Name u p2) nm2 ap2) [ie] [] cp2) X.env) :: starEach [] X.env := by rfl) (hst2 : starEach [ie] X.env = (false, eval ie X.env) :: starEach [] X.env := by rfl)
    (hp1 : (backTo cp1 (starEach [] X.env)).any (·.1) = false := by rfl) (hp2 : (backTo cp2 (starEach [] X.env)).any (·.1) = false := by rfl) :
    SS X W (.Expr (.Call (.Attribute (.Name n p1) nm1 ap1) [.Call (.Attribute (.Name u p2) nm2 ap2) [ie] [] cp2] [] cp1) pos) (sAppPop i j xs) := ⟨fun M0 H0 hd' M m σ H env ph s D q =>
  tWS_of (ps_expr (pe_bm F.plainAttrs_list slot hty rWM_mt (pe_var hN hv hd hcd) (pa_cons (pe_bm F.plainAttrs_list slot2 hty2 mt_popAt (pe_var hN2 hv2 hd2 hcd2) tWA_pa hb2 hf2 hl2 hst2 hp2) pa_nil hst1) hb1 hf1 hl1 hst1 hp1) hs) (by
    obtain ⟨w, h1, h2, w2, h3, h4, h5⟩ := appPop_core i j hij (n := n) (u := u) h s q
    exact ⟨w, h1, h2, w2, h3, h4, h5⟩)⟩
end
end Pyp

/-! list(range(..)), sorted(list of ints), comprehensions with two clauses. -/
namespace Pyp
open PySem PySem.Spec PyProof.Rows L2

def rngV (a : Int) (n : Nat) : List V := (List.range n).map fun i => V.int (a + (i : Nat))
theorem reps_rng {K M H} : ∀ (n : Nat) (a : Int), Reps K M H (rngD a n) (rngV a n)
  | 0, a => Reps.nil
  | n + 1, a => by
    unfold rngV
    rw [List.range_succ_eq_map, List.map_cons, List.map_map, rngD]
    refine .cons (by rw [Rep]; congr 1; simp) ?_
    have e : ((fun i : Nat => V.int (a + (i : Int))) ∘ Nat.succ) = fun i : Nat => V.int ((a + 1) + (i : Int)) := by
      funext i
      show V.int (a + ((i + 1 : Nat) : Int)) = _
      congr 1
      omega
    rw [e]
    exact reps_rng n (a + 1)
def lstRg1 (v : Val) (ph : PH) : Res Val := match v with
  | .d (.int j) => bif okR j then .ok (.own (.lst (rngD 0 j.toNat))) ph else .bad
  | _ => .bad
def lstRg2 (v w : Val) (ph : PH) : Res Val := match v, w with
  | .d (.int i), .d (.int j) => bif okR i && okR j then .ok (.own (.lst (rngD i (j - i).toNat))) ph else .bad
  | _, _ => .bad
def eLRg1 (x : Ex) : Ex := fun env ph => (x env ph).bind lstRg1
def eLRg2 (x y : Ex) : Ex := fun env ph => (x env ph).bind fun v ph1 => (y env ph1).bind fun w ph2 => lstRg2 v w ph2
section
variable {X : Cx} {W : WX} {a b e : Expr} {xa xb : Ex} {p p2 pos pos2 : Pos}
theorem s_lrg1 (hc : X.calm = true) (hm : X.mg "list" = none) (hm2 : X.mg "range" = none) (ha : SE X W a xa) (hg : Gl X "list" := by rfl) (hg2 : Gl X "range" := by rfl)
    (na : starEach [a] X.env = (false, eval a X.env) :: starEach [] X.env := by rfl) (na2 : starEach [.Call (.Name "range" p2) [a] [] pos2] X.env = (false, eval (.Call (.Name "range" p2) [a] [] pos2) X.env) :: starEach [] X.env := by rfl) :
    SE X W (.Call (.Name "list" p) [.Call (.Name "range" p2) [a] [] pos2] [] pos) (eLRg1 xa) := ⟨fun M m σ H env ph r er Q q =>
  tW_of (pe_listRg hc hg hm (prg_1 hg2 hm2 tW_pe na) na2) (by
  refine ha.bind r er q fun va ph1 v1 H1 fr1 r1 er1 rv1 ro1 q1 => ?_
  unfold lstRg1 at q1
  split at q1
  · rename_i j
    rw [cond_eq_ite] at q1
    split at q1
    · rename_i hb
      have hb := okR_is hb
      have g : GE X M m H1 Q (.own (.lst (rngD 0 j.toNat))) ph1 := GE.at fr1 r1 q1
      refine ⟨j, rv_int rv1, ⟨by omega, by omega, by omega, by omega, by omega⟩, fun q hq => ?_⟩
      have e : rgV 0 j = rngV 0 j.toNat := by unfold rgV rngV; rw [Int.sub_zero]
      rw [e]
      exact GE.lst g r1 (reps_rng _ _) q hq
    · exact q1.elim
  · exact q1.elim)⟩
theorem s_lrg2 (hc : X.calm = true) (hm : X.mg "list" = none) (hm2 : X.mg "range" = none) (ha : SE X W a xa) (hb : SE X W b xb) (hg : Gl X "list" := by rfl) (hg2 : Gl X "range" := by rfl)
    (na : starEach [a, b] X.env = (false, eval a X.env) :: starEach [b] X.env := by rfl) (nb : starEach [b] X.env = (false, eval b X.env) :: starEach [] X.env := by rfl) (hp : (backTo pos2 (starEach [b] X.env)).any (·.1) = false := by rfl)
    (na2 : starEach [.Call (.Name "range" p2) [a, b] [] pos2] X.env = (false, eval (.Call (.Name "range" p2) [a, b] [] pos2) X.env) :: starEach [] X.env := by rfl) :
    SE X W (.Call (.Name "list" p) [.Call (.Name "range" p2) [a, b] [] pos2] [] pos) (eLRg2 xa xb) := ⟨fun M m σ H env ph r er Q q =>
  tW_of (pe_listRg hc hg hm (prg_2 hg2 hm2 tW_pe tW_pe na nb hp) na2) (by
  refine ha.bind r er q fun va ph1 v1 H1 fr1 r1 er1 rv1 ro1 q1 => ?_
  refine hb.bind r1 er1 q1 fun vb ph2 v2 H2 fr2 r2 er2 rv2 ro2 q2 => ?_
  unfold lstRg2 at q2
  split at q2
  · rename_i i j
    rw [cond_eq_ite] at q2
    split at q2
    · rename_i hb
      rw [Bool.and_eq_true] at hb
      have hb1 := okR_is hb.1
      have hb2 := okR_is hb.2
      have g : GE X M m H2 Q (.own (.lst (rngD i (j - i).toNat))) ph2 := GE.at (fr1.trans fr2) r2 q2
      refine ⟨i, j, rv_int rv1, rv_int rv2, ⟨by omega, by omega, by omega, by omega, by omega⟩, fun q hq => ?_⟩
      exact GE.lst g r2 (reps_rng _ _) q hq
    · exact q2.elim
  · exact q2.elim)⟩

/-! sorted(xs), xs a list of ints -/
def insI (k : Int) : List Int → List Int
  | [] => [k]
  | x :: xs => if k ≤ x then k :: x :: xs else x :: insI k xs
def sortI (ns : List Int) : List Int := ns.foldr insI []
theorem insI_perm (k : Int) : ∀ xs, (insI k xs).Perm (k :: xs)
  | [] => List.Perm.refl _
  | x :: xs => by
    unfold insI
    split
    · exact List.Perm.refl _
    · exact (List.Perm.cons x (insI_perm k xs)).trans (List.Perm.swap k x xs)
theorem insI_sorted (k : Int) : ∀ xs : List Int, xs.Pairwise (· ≤ ·) → (insI k xs).Pairwise (· ≤ ·)
  | [], _ => by simp [insI]
  | x :: xs, h => by
    obtain ⟨h1, h2⟩ := List.pairwise_cons.mp h
    unfold insI
    split
    · rename_i hk
      refine List.pairwise_cons.mpr ⟨fun y hy => ?_, h⟩
      rcases List.mem_cons.mp hy with e | hy
      · subst e; exact hk
      · have := h1 y hy; omega
    · refine List.pairwise_cons.mpr ⟨fun y hy => ?_, insI_sorted k xs h2⟩
      rcases List.mem_cons.mp ((insI_perm k xs).mem_iff.mp hy) with e | hy
      · subst e; omega
      · exact h1 y hy
theorem sortI_perm : ∀ ns, (sortI ns).Perm ns
  | [] => List.Perm.refl _
  | n :: ns => (insI_perm n _).trans (List.Perm.cons n (sortI_perm ns))
theorem sortI_sorted : ∀ ns, (sortI ns).Pairwise (· ≤ ·)
  | [] => .nil
  | n :: ns => insI_sorted n _ (sortI_sorted ns)
theorem le_eq : ∀ {xs ys : List Int}, xs.Perm ys → xs.Pairwise (· ≤ ·) → ys.Pairwise (· ≤ ·) → xs = ys
  | [], ys, p, _, _ => p.nil_eq
  | x :: xs, [], p, _, _ => absurd p.symm.nil_eq (by simp)
  | x :: xs, y :: ys, p, hx, hy => by
    obtain ⟨a1, a2⟩ := List.pairwise_cons.mp hx
    obtain ⟨b1, b2⟩ := List.pairwise_cons.mp hy
    have e : x = y := by
      have p1 := p.mem_iff.mp (List.mem_cons_self (a := x) (l := xs))
      have q1 := p.mem_iff.mpr (List.mem_cons_self (a := y) (l := ys))
      rcases List.mem_cons.mp p1 with e | p1
      · exact e
      · rcases List.mem_cons.mp q1 with e | q1
        · exact e.symm
        · have := b1 x p1; have := a1 y q1; omega
    subst e
    rw [le_eq (List.Perm.cons_inv p) a2 b2]
def dSortI : D → Option Val
  | .lst ds => (intsD ds).map fun ns => .own (.lst ((sortI ns).map .int))
  | _ => none
theorem s_sortI (hm : X.mg "sorted" = none) (ha : SE X W a xa) (hg : Gl X "sorted" := by rfl) (hv : bootBuiltins "sorted" = some (.builtin "sorted") := by rfl)
    (he : starEach [a] X.env = (false, eval a X.env) :: starEach [] X.env := by rfl) (hpl : (backTo pos (starEach [] X.env)).any (·.1) = false := by rfl) :
    SE X W (.Call (.Name "sorted" p) [a] [] pos) (eD dSortI xa) := ⟨fun M m σ H env ph r er Q q =>
  tW_of (pe_callB cr_sortedI hg hm hv (pa_cons tW_pe pa_nil he) (by decide) (by decide) he hpl) (by
  refine ha.bind r er q fun va ph1 v1 H1 fr1 r1 er1 rv1 _ q1 => ?_
  split at q1
  · rename_i d ed
    obtain ⟨val, ev, g⟩ := Post.of (Q := Q) (M := M) (m := m) (H := H1) (X := X) (W := W) (σ := σ) (o := dSortI d) (ph := ph1) (Post.mono (fun _ _ g => GE.at fr1 r1 g) q1)
    cases d with
    | lst ds =>
      obtain ⟨a, xs, rfl, t, rs⟩ := cr_lst (rv1.cr r1 ed)
      have ev' : (intsD ds).map (fun ns => Val.own (.lst ((sortI ns).map .int))) = some val := ev
      cases hi : intsD ds with
      | none => rw [hi] at ev'; cases ev'
      | some ns =>
        rw [hi] at ev'
        cases ev'
        have ex := intsD_rep hi rs
        subst ex
        refine ⟨a, ns, rfl, SqL.of t, fun ns' p3 hpm hpw hp3 => ?_⟩
        have e : ns' = sortI ns := le_eq (hpm.trans (sortI_perm ns).symm) hpw (sortI_sorted ns)
        subst e
        exact GE.lst g r1 (reps_ints _) p3 hp3
    | _ => cases ev
  · exact q1.elim)⟩
end

/-! comprehensions with two clauses -/
section
variable {J : It} {n : Nat} {G : Hp → Prop} {Y : Nat → Hp → V → Hp → Prop}
theorem wk_it (w : Walk J n G Y) (Pv : Nat → Hp → Prop) {H0 : Hp} (h0 : Pv 0 H0) (hG : ∀ i H, i ≤ n → Pv i H → G H) (S : (Hp → Prop) → V → Hp → Prop) (Qd : Hp → Prop)
    (hs : ∀ i x H H', i < n → Pv i H → Y i H x H' → S (Pv (i + 1)) x H') (hd : ∀ H, Pv n H → Qd H) :
    ∃ W : Nat → Nat → Hp → Prop, (∃ m, W 0 m H0) ∧ ∀ i m H, W i m H → (J.stop i H ∧ Qd H) ∨ (J.go i H ∧ ∃ Nx : Hp → Prop, (∀ H', Nx H' → ∃ m', m' < m ∧ W (i + 1) m' H') ∧ ∀ x H', J.yld i H x H' → S Nx x H') := by
  refine ⟨fun i m H => m = n - i ∧ i ≤ n ∧ Pv i H, ⟨n, by simp, Nat.zero_le _, h0⟩, ?_⟩
  rintro i m H ⟨rfl, hi, p⟩
  have q := hG i H hi p
  by_cases hlt : i < n
  · exact .inr ⟨w.goes i H hlt q, Pv (i + 1), fun H' p' => ⟨n - (i + 1), by omega, rfl, hlt, p'⟩, fun x H' y => hs i x H H' hlt p (w.yields i H x H' hlt q y)⟩
  · have e : i = n := by omega
    subst e
    exact .inl ⟨w.stops H q, hd H p⟩
end
/-- what comes behind, errors not covered -/
def Res.only {α β : Type} (r : Res α) (f : α → PH → Res β) : Res β := match r with
  | .ok a ph => f a ph
  | _ => .bad
@[simp] theorem Res.only_ok {α β : Type} (a : α) (ph : PH) (f : α → PH → Res β) : (Res.ok a ph).only f = f a ph := rfl
@[simp] theorem Res.only_exc {α β : Type} (c : Str) (fs : List (Str × D)) (ph : PH) (f : α → PH → Res β) : (Res.exc c fs ph : Res α).only f = .bad := rfl
@[simp] theorem Res.only_bad {α β : Type} (f : α → PH → Res β) : (Res.bad : Res α).only f = .bad := rfl
theorem only_only {α β γ : Type} (r : Res α) (f : α → PH → Res β) (h : β → PH → Res γ) : (r.only f).only h = r.only fun a ph => (f a ph).only h := by cases r <;> rfl
theorem Post.only {X : Cx} {W : WX} {M m σ H} {α β γ : Type} {G : γ → PH → Prop} {r : Res α} {f : α → PH → Res β} {k : β → PH → Res γ} (q : Post X W M m σ H G ((r.only f).bind k)) : ∃ a ph, r = .ok a ph ∧ Post X W M m σ H G ((f a ph).bind k) := by
  cases r with
  | ok a ph => exact ⟨a, ph, rfl, q⟩
  | exc c fs ph => exact False.elim q
  | bad => exact False.elim q
def compL2 (g : Gx) (t : Tx) (it1 : Ix) (own1 : List Nat) (g1 : Gx) (t1 : Tx) (x : Ex) (env : Env) : List D → List D → PH → Res (List D)
  | [], acc, ph => .ok acc ph
  | d :: ds, acc, ph => match g d env with
    | some env1 => (t env1 ph).only fun b ph1 => bif b then (it1 env1 ph1).only fun ds1 ph2 => (compL g1 t1 x (wipeE env1 own1) ds1 acc ph2).only fun acc2 ph3 => compL2 g t it1 own1 g1 t1 x env ds acc2 ph3
        else compL2 g t it1 own1 g1 t1 x env ds acc ph1
    | none => .bad
theorem compL_only (g : Gx) (t : Tx) (x : Ex) (env : Env) (d : D) (ds acc : List D) (ph : PH) : compL g t x env (d :: ds) acc ph = match g d env with
    | some env1 => (t env1 ph).only fun b ph1 => bif b then (x env1 ph1).only fun v ph2 => (match v.dat with
        | some y => if acc.length < lim then compL g t x env ds (acc ++ [y]) ph2 else .bad
        | none => .bad)
        else compL g t x env ds acc ph1
    | none => .bad := by
  rw [compL]
  cases g d env with
  | none => rfl
  | some env1 =>
    dsimp only
    cases ht : t env1 ph with
    | ok b ph1 =>
      cases b with
      | false => rfl
      | true =>
        cases hx : x env1 ph1 with
        | ok v ph2 =>
          simp [hx] <;> (cases v.dat <;> rfl)
        | exc c fs ph2 => simp [hx]
        | bad => simp [hx]
    | exc c fs ph1 => rfl
    | bad => rfl
def eComp2 (own own1 : List Nat) (g : Gx) (it : Ix) (t : Tx) (g1 : Gx) (it1 : Ix) (t1 : Tx) (x : Ex) : Ex := fun env ph => (it env ph).bind fun ds ph1 => (compL2 g t it1 own1 g1 t1 x (wipeE env own) ds [] ph1).bind fun out ph2 => .ok (.own (.lst out)) ph2
def iBlk (X : Cx) (scope : Scope) (tg iter : Expr) : TI := fun σ H R => ∀ (s : Shared) (H' : Hp) (C : Addr) (cl : List (Str × Addr)) (fp : List Addr), tWI (X.blk s H' scope (compEnvC scope cl C X.env) fp) tg iter σ H R
/-- the list grows at Dd -/
structure Grw (K : PySem.W.Frag) (M : Addr → Prop) (m : List Addr) (H1 : Hp) (Dd : Addr) (σ : L2.St) (env : Env) (hdI : V → D → Prop) (Hc : Hp) (acc : List D) (ph : PH) : Prop where
  fr : Frame m H1 Hc
  rel : Rel K (MAdd M Dd) m Hc ph
  at_ : ∃ accV, Hc Dd = some (.lst accV) ∧ Reps K (MAdd M Dd) Hc acc accV
  held : ∀ v d, hdI v d → Held K (MAdd M Dd) m Hc v d
  er : EnvR K (MAdd M Dd) m σ Hc env
theorem Grw.keep {K M m H1 Dd σ env hdI Hc acc ph H2 ph2} (g : Grw K M m H1 Dd σ env hdI Hc acc ph) (hD : H1 Dd = none) (Dm : Dd ∉ m) (f : Frame m Hc H2) (r : Rel K (MAdd M Dd) m H2 ph2) : Grw K M m H1 Dd σ env hdI H2 acc ph2 := by
  obtain ⟨accV, h1, h2⟩ := g.at_
  exact ⟨g.fr.trans f, r, ⟨accV, f Dd _ h1 Dm, Reps.keep (f.keep g.rel) _ _ h2⟩, fun v d z => (g.held v d z).keep g.rel f, g.er.keep g.rel f⟩
theorem EnvR.push {K M m σ Hc env Dd accV yv} (er : EnvR K (MAdd M Dd) m σ Hc env) (hne : ∀ (j : Nat) (z : D) (a : Addr), env[j]? = some (some (.own z)) → σ[j]? = some (some (V.ref a)) → a ≠ Dd) : EnvR K (MAdd M Dd) m σ (upd Hc Dd (.lst (accV ++ [yv]))) env := by
  have kk : KeepP (MAdd M Dd) Hc (upd Hc Dd (.lst (accV ++ [yv]))) := fun b o hb n => by rw [upd_ne (fun e => n (.inr e))]; exact hb
  have ka : ∀ b o, b ≠ Dd → Hc b = some o → upd Hc Dd (.lst (accV ++ [yv])) b = some o := fun b o hb h => by rw [upd_ne hb]; exact h
  have cka : ∀ {b d}, b ≠ Dd → Cont K (MAdd M Dd) Hc b d → Cont K (MAdd M Dd) (upd Hc Dd (.lst (accV ++ [yv]))) b d := fun {b d} hb c => c.keep kk fun o z => ka b o hb z
  refine ⟨er.1, fun j z ez => ?_⟩
  obtain ⟨v', h1, h2⟩ := er.2 j z ez
  refine ⟨v', h1, ?_⟩
  cases z with
  | d z => exact Rep.keep kk _ _ h2
  | own z =>
    obtain ⟨a, e, ma, am, c⟩ := h2
    subst e
    exact ⟨a, rfl, ma, am, cka (hne j z a ez h1) c⟩
  | bor z => exact h2.elim
  | ref n => exact h2
theorem own_ne {K M m σ H1 env Dd ph0} (r : Rel K M m H1 ph0) (er1 : EnvR K M m σ H1 env) (hD : H1 Dd = none) (j : Nat) (z : D) (a : Addr) (e : env[j]? = some (some (.own z))) (e2 : σ[j]? = some (some (V.ref a))) : a ≠ Dd := by
  obtain ⟨v0, g1, a0, g2, g3, _⟩ := er1.2 j _ e
  rw [e2] at g1
  cases g1
  cases g2
  intro h
  subst h
  exact r.notM hD g3
/-- one more -/
theorem Grw.push {K M m H1 Dd σ env hdI Hc acc ph y yv ph0} (g : Grw K M m H1 Dd σ env hdI Hc acc ph) (r : Rel K M m H1 ph0) (er1 : EnvR K M m σ H1 env) (hD : H1 Dd = none) (Dm : Dd ∉ m) (hh : ∀ v d, hdI v d → Held K M m H1 v d) (ry : Rep K (MAdd M Dd) Hc y yv) {accV : List V} (hDc : Hc Dd = some (.lst accV)) :
    Grw K M m H1 Dd σ env hdI (upd Hc Dd (.lst (accV ++ [yv]))) (acc ++ [y]) ph := by
  obtain ⟨accV', h1, ra⟩ := g.at_
  rw [hDc] at h1
  cases h1
  have kk : KeepP (MAdd M Dd) Hc (upd Hc Dd (.lst (accV ++ [yv]))) := fun b o hb n => by rw [upd_ne (fun e => n (.inr e))]; exact hb
  have ka : ∀ b o, b ≠ Dd → Hc b = some o → upd Hc Dd (.lst (accV ++ [yv])) b = some o := fun b o hb h => by rw [upd_ne hb]; exact h
  have cka : ∀ {b d}, b ≠ Dd → Cont K (MAdd M Dd) Hc b d → Cont K (MAdd M Dd) (upd Hc Dd (.lst (accV ++ [yv]))) b d := fun {b d} hb c => c.keep kk fun o z => ka b o hb z
  refine ⟨fun b o hb hm => ?_, ⟨g.rel.len, g.rel.nd, g.rel.sub, fun b z => ?_, fun n b d e1 e2 => cka (fun e => Dm (e ▸ List.mem_of_getElem? e1)) (g.rel.cont n b d e1 e2)⟩, ⟨accV ++ [yv], upd_same, Reps.append (Reps.keep kk _ _ ra) (.cons (Rep.keep kk _ _ ry) .nil)⟩, fun v d z => ?_, g.er.push (own_ne r er1 hD)⟩
  · have h2 := g.fr b o hb hm
    rw [upd_ne (ne_of_none hb hD)]; exact h2
  · by_cases hb : b = Dd
    · subst hb; exact ⟨_, upd_same⟩
    · obtain ⟨o, e⟩ := g.rel.dom b z
      exact ⟨o, ka b o hb e⟩
  · rcases g.held v d z with h | ⟨a, e, n, c⟩
    · exact .inl (Rep.keep kk _ _ h)
    · by_cases ha : a = Dd
      · subst ha
        rcases hh v d z with h0 | ⟨a0, e0, n0, c0⟩
        · have h6 : Rep K (MAdd M a) H1 d v := Rep.fresh hD _ _ h0
          exact .inl (Rep.keep (fun b o hb nn => by
            rw [upd_ne (ne_of_none hb hD)]
            exact g.fr b o hb fun q => nn (.inl (r.sub b q))) _ _ h6)
        · subst e0
          cases e
          obtain ⟨o, ho⟩ := c0.some
          rw [hD] at ho; cases ho
      · exact .inr ⟨a, e, n, cka ha c⟩
section
variable {X : Cx}
theorem STs.w {W : WX} {ifs : List Expr} {x : Tx} {M m σ H env ph Q} (h : STs X W ifs x) (r : Rel X.K M m H ph) (er : EnvR X.K M m σ H env) (q : Post X W M m σ H (GT X M m H Q) (x env ph)) : tWTs X ifs σ H Q :=
  let ⟨_, p, q⟩ := h.run M m σ H env ph r er Q q
  tWTs_of p q
theorem comp2_core {W : WX} {elt tg iter tg1 iter1 : Expr} {ifs ifs1 : List Expr} {scope : Scope} {own : List (Str × Nat)} {own1 : List Nat} {it it1 : Ix} {g g1 : Gx} {sl sl1 : List Nat} {t t1 : Tx} {x : Ex} (hi : SI X W tg iter it false) (hsl : ∀ j ∈ sl, j ∈ own.map (·.2)) (hsl1 : ∀ j ∈ sl1, j ∈ own1)
    (hg : ∀ (s : Shared) (H : Hp) (C : Addr) (cl : List (Str × Addr)) (fp : List Addr), SG (X.blk s H scope (compEnvC scope cl C X.env) fp) tg g sl) (ht : ∀ (s : Shared) (H : Hp) (C : Addr) (cl : List (Str × Addr)) (fp : List Addr), STs (X.blk s H scope (compEnvC scope cl C X.env) fp) W0 ifs t)
    (hi1 : ∀ (s : Shared) (H : Hp) (C : Addr) (cl : List (Str × Addr)) (fp : List Addr), SI (X.blk s H scope (compEnvC scope cl C X.env) fp) W0 tg1 iter1 it1 true)
    (hg1 : ∀ (s : Shared) (H : Hp) (C : Addr) (cl : List (Str × Addr)) (fp : List Addr), SG (X.blk s H scope (compEnvC scope cl C X.env) fp) tg1 g1 sl1) (ht1 : ∀ (s : Shared) (H : Hp) (C : Addr) (cl : List (Str × Addr)) (fp : List Addr), STs (X.blk s H scope (compEnvC scope cl C X.env) fp) W0 ifs1 t1)
    (he : ∀ (s : Shared) (H : Hp) (C : Addr) (cl : List (Str × Addr)) (fp : List Addr), SE (X.blk s H scope (compEnvC scope cl C X.env) fp) W0 elt x) {M m σ H env ph} {Q : VK} (r : Rel X.K M m H ph) (er : EnvR X.K M m σ H env)
    (q : Post X W M m σ H (GE X M m H Q) (eComp2 (own.map (·.2)) own1 g it t g1 it1 t1 x env ph)) :
    tLc2 (tWI X tg iter) (gBlk X scope tg) (tBlk X scope ifs) (iBlk X scope tg1 iter1) (gBlk X scope tg1) (tBlk X scope ifs1) (eBlk X scope elt) (own.map (·.2)) own1 σ H Q := by
  refine hi.run M m σ H env ph r er _ ?_
  have q' : Post X W M m σ H (GE X M m H Q) ((it env ph).bind fun ds ph1 => (compL2 g t it1 own1 g1 t1 x (wipeE env (own.map (·.2))) ds [] ph1).bind fun out ph2 => .ok (.own (.lst out)) ph2) := q
  cases hit : it env ph with
  | bad => rw [hit] at q'; exact q'
  | exc c fs ph1 => rw [hit] at q'; exact q'
  | ok ds ph1 =>
    rw [hit, Res.bind_ok] at q'
    intro J hdI H1 fr r1 hh _ dr Dd hD
    have er1 := er.keep r fr
    have w : Walk J ds.length (fun H => ∃ M, (∀ a, M a → ∃ o, H a = some o) ∧ ∀ v d, hdI v d → CR X.K M H d v) (fun i H x H' => J.yld i H x H') :=
      ⟨fun i H hi ⟨M, _, h⟩ => dr.goes i H M h hi, fun H ⟨M, _, h⟩ => dr.stops H M h, fun i H x H' _ _ y => y⟩
    have Dm : Dd ∉ m := fun z => r1.notM hD (r1.sub Dd z)
    refine wk_it w (fun i Hc => ∃ acc phc, Grw X.K M m H1 Dd σ env hdI Hc acc phc ∧ Post X W M m σ H (GE X M m H Q) ((compL2 g t it1 own1 g1 t1 x (wipeE env (own.map (·.2))) (ds.drop i) acc phc).bind fun out ph2 => .ok (.own (.lst out)) ph2))
      ⟨[], ph1, ⟨Frame.new hD, r1.newM hD, ⟨[], upd_same, Reps.nil⟩, fun v d z => ?_, er1.newM hD⟩, by simpa using q'⟩
      (fun i Hc _ ⟨acc, phc, gw, _⟩ => ⟨MAdd M Dd, gw.rel.dom, fun v d z => (gw.held v d z).cr⟩) _ _ (fun i xv H2 H2' hi ⟨acc, phc, gw, qc⟩ y => ?_) (fun Hc ⟨acc, phc, gw, qc⟩ => ?_)
    · rcases hh v d z with h | ⟨a, e, n, c⟩
      · exact .inl (Rep.keep (keep_new hD) _ _ (Rep.fresh hD _ _ h))
      · exact .inr ⟨a, e, n, (c.fresh hD).keep (keep_new hD) fun u z => by rw [upd_ne (ne_of_none z hD)]; exact z⟩
    · rw [drop_cons hi] at qc
      obtain ⟨gr, rx⟩ := dr.yields i H2 (MAdd M Dd) xv H2' ds[i] (fun v d z => (gw.held v d z).cr) gw.rel.dom (List.getElem?_eq_getElem hi) y
      have r3' := gr.rel gw.rel
      have f3' : Frame m H2 H2' := gr.frame
      rw [compL2] at qc
      intro s0 H0' C cl fp
      cases hge : g ds[i] (wipeE env (own.map (·.2))) with
      | none => rw [hge] at qc; exact False.elim qc
      | some env1 =>
        rw [hge] at qc
        refine (hg s0 H0' C cl fp).run (MAdd M Dd) m (wipe σ (own.map (·.2))) H2' (wipeE env (own.map (·.2))) phc ds[i] xv env1 r3' (wipe_env (gw.er.keep gw.rel f3') _) (by rw [wipeE_length, wipe_length, er.1]) rx hge _ ?_
        intro σ2 H3 f3g r3 er2 ch
        have gw3 := gw.keep hD Dm (f3'.trans f3g) r3
        have ne2 : ∀ (j : Nat) (z : D) (a : Addr), env1[j]? = some (some (.own z)) → σ2[j]? = some (some (V.ref a)) → a ≠ Dd := fun j z a e1 e2 => by
          have nj : j ∉ sl := fun h => ch.inE j z h e1
          rw [ch.outE j nj] at e1
          rw [ch.outS j nj] at e2
          obtain ⟨e3, nv⟩ := wipeE_some e1
          rw [wipe_out' nv] at e2
          exact own_ne r1 er1 hD j z a e3 e2
        refine ⟨?_, ?_⟩
        · rw [wipe_chg ch hsl, wipe_wipe]
        · intro s0 H0' C cl fp
          refine (ht s0 H0' C cl fp).w (M := MAdd M Dd) (m := m) (env := env1) (ph := phc) r3 er2 ?_
          obtain ⟨b, ph4, hte, q3⟩ := Post.only qc
          rw [hte]
          intro H4 f4 r4
          have f4 : Frame m H3 H4 := f4
          have r4 : Rel X.K (MAdd M Dd) m H4 ph4 := r4
          have gw4 := gw3.keep hD Dm f4 r4
          cases b with
          | false => exact ⟨acc, ph4, gw4, q3⟩
          | true =>
            rw [if_pos rfl]
            intro s0 H0' C cl fp
            refine (hi1 s0 H0' C cl fp).run (MAdd M Dd) m σ2 H4 env1 ph4 r4 (er2.keep r3 f4) _ ?_
            obtain ⟨ds1, ph5, hit1, q4⟩ := Post.only (show Post X W M m σ H (GE X M m H Q) (((it1 env1 ph4).only fun ds1 ph2 => (compL g1 t1 x (wipeE env1 own1) ds1 acc ph2).only fun acc2 ph3 => compL2 g t it1 own1 g1 t1 x (wipeE env (own.map (·.2))) (ds.drop (i + 1)) acc2 ph3).bind fun out ph2 => .ok (.own (.lst out)) ph2) from q3)
            rw [hit1]
            intro J1 hd1 H5 f5 r5 hh1 hrep1 dr1
            have hrep := hrep1 rfl
            have f5 : Frame m H4 H5 := f5
            have r5 : Rel X.K (MAdd M Dd) m H5 ph5 := r5
            have gw5 := gw4.keep hD Dm f5 r5
            have er4 : EnvR X.K (MAdd M Dd) m σ2 H4 env1 := er2.keep r3 f4
            have er5 : EnvR X.K (MAdd M Dd) m σ2 H5 env1 := er4.keep r4 f5
            have w1 : Walk J1 ds1.length (fun H => ∃ M, (∀ a, M a → ∃ o, H a = some o) ∧ ∀ v d, hd1 v d → CR X.K M H d v) (fun i H x H' => J1.yld i H x H') :=
              ⟨fun i H hi ⟨M, _, h⟩ => dr1.goes i H M h hi, fun H ⟨M, _, h⟩ => dr1.stops H M h, fun i H x H' _ _ y => y⟩
            refine wk_it w1 (fun j Hc => ∃ acc phc, Grw X.K M m H1 Dd σ env hdI Hc acc phc ∧ EnvR X.K (MAdd M Dd) m σ2 Hc env1 ∧ (∀ v d, hd1 v d → Rep X.K (MAdd M Dd) Hc d v) ∧
                Post X W M m σ H (GE X M m H Q) (((compL g1 t1 x (wipeE env1 own1) (ds1.drop j) acc phc).only fun acc2 ph3 => compL2 g t it1 own1 g1 t1 x (wipeE env (own.map (·.2))) (ds.drop (i + 1)) acc2 ph3).bind fun out ph2 => .ok (.own (.lst out)) ph2))
              ⟨acc, ph5, gw5, er5, hrep, by simpa using q4⟩ (fun j Hc _ ⟨acc, phc, gw, _, hr, _⟩ => ⟨MAdd M Dd, gw.rel.dom, fun v d z => (hr v d z).cr⟩) _ _ (fun j xv1 H6 H6' hj ⟨acc6, ph6, gw6, er6, hr6, q6⟩ y1 => ?_) (fun Hc ⟨acc6, ph6, gw6, er6, hr6, q6⟩ => ?_)
            · rw [drop_cons hj, compL_only] at q6
              obtain ⟨gr1, rx1⟩ := dr1.yields j H6 (MAdd M Dd) xv1 H6' ds1[j] (fun v d z => (hr6 v d z).cr) gw6.rel.dom (List.getElem?_eq_getElem hj) y1
              have r6' := gr1.rel gw6.rel
              have f6' : Frame m H6 H6' := gr1.frame
              intro s0 H0' C cl fp
              cases hge1 : g1 ds1[j] (wipeE env1 own1) with
              | none => rw [hge1] at q6; exact False.elim q6
              | some env2 =>
                rw [hge1] at q6
                refine (hg1 s0 H0' C cl fp).run (MAdd M Dd) m (wipe σ2 own1) H6' (wipeE env1 own1) ph6 ds1[j] xv1 env2 r6' (wipe_env (er6.keep gw6.rel f6') _) (by rw [wipeE_length, wipe_length, er6.1]) rx1 hge1 _ ?_
                intro σ3 H7 f7 r7 er7 ch7
                have f7 : Frame m H6' H7 := f7
                have r7 : Rel X.K (MAdd M Dd) m H7 ph6 := r7
                have gw7 := gw6.keep hD Dm (f6'.trans f7) r7
                refine ⟨?_, ?_⟩
                · rw [wipe_chg ch7 hsl1, wipe_wipe]
                · intro s0 H0' C cl fp
                  refine (ht1 s0 H0' C cl fp).w (M := MAdd M Dd) (m := m) (env := env2) (ph := ph6) r7 er7 ?_
                  have q7 := q6
                  rw [only_only] at q7
                  obtain ⟨b, ph8, hte1, q8⟩ := Post.only q7
                  rw [hte1]
                  intro H8 f8 r8
                  have f8 : Frame m H7 H8 := f8
                  have r8 : Rel X.K (MAdd M Dd) m H8 ph8 := r8
                  have gw8 := gw7.keep hD Dm f8 r8
                  have fall := (f6'.trans f7).trans f8
                  have er8 : EnvR X.K (MAdd M Dd) m σ2 H8 env1 := er6.keep gw6.rel fall
                  have hr8 : ∀ v d, hd1 v d → Rep X.K (MAdd M Dd) H8 d v := fun v d z => Rep.keep (fall.keep gw6.rel) _ _ (hr6 v d z)
                  cases b with
                  | false => exact ⟨acc6, ph8, gw8, er8, hr8, q8⟩
                  | true =>
                    rw [if_pos rfl]
                    intro s0 H0' C cl fp
                    refine (he s0 H0' C cl fp).run (MAdd M Dd) m σ3 H8 env2 ph8 r8 (er7.keep r7 f8) _ ?_
                    have q9 : Post X W M m σ H (GE X M m H Q) ((((x env2 ph8).only fun v ph2 => (match v.dat with
                      | some y => if acc6.length < lim then compL g1 t1 x (wipeE env1 own1) (ds1.drop (j + 1)) (acc6 ++ [y]) ph2 else .bad
                      | none => .bad)).only fun acc2 ph3 => compL2 g t it1 own1 g1 t1 x (wipeE env (own.map (·.2))) (ds.drop (i + 1)) acc2 ph3).bind fun out ph2 => .ok (.own (.lst out)) ph2) := q8
                    rw [only_only] at q9
                    obtain ⟨v, ph9, hxe, q10⟩ := Post.only q9
                    rw [hxe]
                    intro yv H9 f9 r9 rv9 _
                    have f9 : Frame m H8 H9 := f9
                    have r9 : Rel X.K (MAdd M Dd) m H9 ph9 := r9
                    have rv9 : RV X.K (MAdd M Dd) m H8 H9 yv v := rv9
                    cases hda : v.dat with
                    | none => rw [hda] at q10; exact False.elim q10
                    | some y =>
                      rw [hda] at q10
                      have ry := rv9.dat hda
                      have gw9 := gw8.keep hD Dm f9 r9
                      obtain ⟨accV, hDc, ra⟩ := gw9.at_
                      by_cases hlen : acc6.length < lim
                      · have q11 : Post X W M m σ H (GE X M m H Q) (((if acc6.length < lim then compL g1 t1 x (wipeE env1 own1) (ds1.drop (j + 1)) (acc6 ++ [y]) ph9 else .bad : Res (List D)).only fun acc2 ph3 => compL2 g t it1 own1 g1 t1 x (wipeE env (own.map (·.2))) (ds.drop (i + 1)) acc2 ph3).bind fun out ph2 => .ok (.own (.lst out)) ph2) := q10
                        rw [if_pos hlen] at q11
                        have kk : KeepP (MAdd M Dd) H9 (upd H9 Dd (.lst (accV ++ [yv]))) := fun b o hb n => by rw [upd_ne (fun e => n (.inr e))]; exact hb
                        refine ⟨accV, hDc, ?_, acc6 ++ [y], ph9, gw9.push r1 er1 hD Dm hh ry hDc, (er8.keep r8 f9).push ne2, fun v d z => Rep.keep kk _ _ (Rep.keep (f9.keep r8) _ _ (hr8 v d z)), q11⟩
                        rw [ra.length]; exact lim_lt (Nat.le_of_lt hlen)
                      · have q11 : Post X W M m σ H (GE X M m H Q) (((if acc6.length < lim then compL g1 t1 x (wipeE env1 own1) (ds1.drop (j + 1)) (acc6 ++ [y]) ph9 else .bad : Res (List D)).only fun acc2 ph3 => compL2 g t it1 own1 g1 t1 x (wipeE env (own.map (·.2))) (ds.drop (i + 1)) acc2 ph3).bind fun out ph2 => .ok (.own (.lst out)) ph2) := q10
                        rw [if_neg hlen] at q11
                        exact False.elim q11
            · rw [List.drop_length, compL] at q6
              exact ⟨acc6, ph6, gw6, q6⟩
    · rw [List.drop_length, compL2] at qc
      have k0 : ∀ b, M b → MAdd M Dd b := fun b z => .inl z
      obtain ⟨accV, hDc, ra⟩ := gw.at_
      refine qc (.ref Dd) Hc (fr.trans gw.fr) (gw.rel.anti k0 r.sub) ⟨Dd, rfl, fr.back r1 hD, r1.notM hD, accV, hDc, Reps.anti k0 _ _ ra⟩ fun d e a ea => ?_
      cases e; cases ea
      exact ⟨gw.rel, accV, hDc, ra⟩
end
section
variable {X : Cx} {W : WX} {elt tg iter tg1 iter1 : Expr} {ifs ifs1 : List Expr} {scope : Scope} {own : List (Str × Nat)} {own1 : List Nat} {it it1 : Ix} {g g1 : Gx} {sl sl1 : List Nat} {t t1 : Tx} {x : Ex} {pos : Pos}
theorem iBlk_pi (s : Shared) (H : Hp) (C : Addr) (cl : List (Str × Addr)) (fp : List Addr) : PI (X.blk s H scope (compEnvC scope cl C X.env) fp) tg1 iter1 (iBlk X scope tg1 iter1) := ⟨fun pins s0 σ H0 R I h => h s H C cl fp pins s0 I⟩
theorem s_comp2 (own : List (Str × Nat)) (own1 : List Nat) (hc : X.calm = true) (hN : X.N.Nodup) (ok : BlkOk X.N X.env.scope scope own) (hv : ∀ i ∈ own1, i ∈ own.map (·.2)) (hi : SI X W tg iter it false) (hsl : ∀ j ∈ sl, j ∈ own.map (·.2)) (hsl1 : ∀ j ∈ sl1, j ∈ own1)
    (hg : ∀ (s : Shared) (H : Hp) (C : Addr) (cl : List (Str × Addr)) (fp : List Addr), SG (X.blk s H scope (compEnvC scope cl C X.env) fp) tg g sl) (ht : ∀ (s : Shared) (H : Hp) (C : Addr) (cl : List (Str × Addr)) (fp : List Addr), STs (X.blk s H scope (compEnvC scope cl C X.env) fp) W0 ifs t)
    (hi1 : ∀ (s : Shared) (H : Hp) (C : Addr) (cl : List (Str × Addr)) (fp : List Addr), SI (X.blk s H scope (compEnvC scope cl C X.env) fp) W0 tg1 iter1 it1 true)
    (hg1 : ∀ (s : Shared) (H : Hp) (C : Addr) (cl : List (Str × Addr)) (fp : List Addr), SG (X.blk s H scope (compEnvC scope cl C X.env) fp) tg1 g1 sl1) (ht1 : ∀ (s : Shared) (H : Hp) (C : Addr) (cl : List (Str × Addr)) (fp : List Addr), STs (X.blk s H scope (compEnvC scope cl C X.env) fp) W0 ifs1 t1)
    (he : ∀ (s : Shared) (H : Hp) (C : Addr) (cl : List (Str × Addr)) (fp : List Addr), SE (X.blk s H scope (compEnvC scope cl C X.env) fp) W0 elt x) (hs : ∀ x, foldedSetIterable iter X.env x = pure x := by intro _; rfl) (hs1 : ∀ env x, foldedSetIterable iter1 env x = pure x := by intro _ _; rfl) :
    SE X W (.ListComp elt [⟨tg, iter, ifs, 0⟩, ⟨tg1, iter1, ifs1, 0⟩] scope pos) (eComp2 (own.map (·.2)) own1 g it t g1 it1 t1 x) :=
  ⟨fun M m σ H env ph r er Q q => tW_of (pe_lc2 hc hN tWI_pi ok hv gBlk_pg tBlk_pt iBlk_pi gBlk_pg tBlk_pt eBlk_pe hs hs1) (comp2_core hi hsl hsl1 hg ht hi1 hg1 ht1 he r er q)⟩
end
end Pyp

/-! Many names at once by way of a tuple; each may be the holder of a list just made. -/
namespace Pyp
open PySem PySem.Spec PyProof.Rows L2
def parN : List Nat → List Ex → Env → Env → PH → Out
  | [], [], _, env1, ph => .nx env1 ph
  | i :: is, x :: xs, env, env1, ph => (x env ph).bindS env fun v ph1 => (varEnd i env1 v ph1).bind fun env2 ph2 => parN is xs env env2 ph2
  | _, _, _, _, _ => .bad
def sParN (is : List Nat) (xs : List Ex) : Sx := fun env ph => parN is xs env env ph
inductive SEs (X : Cx) (W : WX) : List Expr → List Ex → Prop where
  | nil : SEs X W [] []
  | cons {e : Expr} {es : List Expr} {x : Ex} {xs : List Ex} (h : SE X W e x) (hs : SEs X W es xs) (hst : starEach (e :: es) X.env = (false, eval e X.env) :: starEach es X.env := by rfl) : SEs X W (e :: es) (x :: xs)
inductive NGs (X : Cx) : List Expr → List Nat → Prop where
  | nil : NGs X [] []
  | cons {n : Str} {pos : Pos} {es : List Expr} {is : List Nat} (i : Nat) (hs : NGs X es is) (hi : X.N[i]? = some n := by rfl) (hx : Loc X.env.scope n := by first | exact .inl rfl | exact .inr rfl) (hf : X.fn n = true ∨ X.env.scope.names.lookup n = some .local := by first | exact .inl rfl | exact .inr rfl)
      (hst : (assignEach (.Name n pos :: es) X.env).map (·.2) = assign (.Name n pos) X.env :: (assignEach es X.env).map (·.2) := by rfl) : NGs X (.Name n pos :: es) (i :: is)
def setAll : L2.St → List Nat → List V → L2.St
  | σ, i :: is, v :: vs => setAll (σ.set i (some v)) is vs
  | σ, _, _ => σ
section
variable {X : Cx} {W : WX}
theorem ngs_run (hN : X.N.Nodup) {ts : List Expr} {is : List Nat} (h : NGs X ts is) : ∀ (vs : List V) (σ : L2.St) (H : Hp) (Q : L2.St → Hp → Prop), vs.length = is.length → Q (setAll σ is vs) H → tWGs X ts vs σ H Q := by
  induction h with
  | nil =>
    intro vs σ H Q hl q
    cases vs with
    | nil => exact tWGs_of pgs_nil ⟨rfl, q⟩
    | cons v vs => cases hl
  | cons i hs hi hx hf hst ih =>
    intro vs σ H Q hl q
    cases vs with
    | nil => cases hl
    | cons v vs =>
      exact tWGs_of (pgs_cons (pg_name hN hi hx hf) tWGs_pgs hst) ⟨v, vs, rfl, ih vs _ H Q (by simpa using hl) q⟩
theorem parN_run {M0 H0 hd m} {D : Ends} {es : List Expr} {xs : List Ex} (h : SEs X W es xs) : ∀ (is : List Nat) M σ H env ph σ1 env1, StR X.K M0 H0 hd M m σ H env ph → StR X.K M0 H0 hd M m σ1 H env1 ph → PostS X W M0 H0 hd m D (parN is xs env env1 ph) →
    tWA X es σ H (fun vs H' => vs.length = is.length ∧ ∀ p o, H' p = none → D.nx (setAll σ1 is vs) (upd H' p o)) := by
  induction h with
  | nil =>
    intro is M σ H env ph σ1 env1 s s1 q
    cases is with
    | cons i is => exact q.elim
    | nil => exact tWA_of pa_nil ⟨rfl, fun p o hp => q M σ1 _ (s1.keep (Frame.new hp) (s1.rel.new hp))⟩
  | @cons e es' x xs' he hs hst ih =>
    intro is M σ H env ph σ1 env1 s s1 q
    cases is with
    | nil => exact q.elim
    | cons i is =>
      refine tWA_of (pa_cons tW_pe tWA_pa hst) (he.bindS s q fun val ph1 v H1 fr s2 rv ro q1 => ?_)
      have fin : ∀ {M' : Addr → Prop} {env2 : Env} {ph2 : PH}, StR X.K M0 H0 hd M' m σ H1 env ph2 → StR X.K M0 H0 hd M' m (σ1.set i (some v)) H1 env2 ph2 → PostS X W M0 H0 hd m D (parN is xs' env env2 ph2) →
          tWA X es' σ H1 (fun vs H' => (v :: vs).length = (i :: is).length ∧ ∀ p o, H' p = none → D.nx (setAll σ1 (i :: is) (v :: vs)) (upd H' p o)) := fun t t1 q2 po pins st I => by
        have := ih is _ _ _ _ _ _ _ t t1 q2 po pins st I
        refine thn this fun us st' ⟨vs, H', I', r', q'⟩ => ⟨vs, H', I', r', ?_⟩
        exact ⟨by simp [q'.1], q'.2⟩
      cases val with
      | own d =>
        obtain ⟨a1, rfl, n1, m1, c1⟩ := rv
        obtain ⟨ra, ca⟩ := ro d rfl a1 rfl
        exact fin (s.more fr ra ca n1 m1) (s1.setOwn (i := i) fr ra ca n1 m1) q1
      | d d => exact fin s2 ((s1.keep fr s2.rel).setD rv) q1
      | bor d => exact q1.elim
      | ref k => exact q1.elim
theorem st_parN {ts es : List Expr} {is : List Nat} {xs : List Ex} {kt k2 : Nat} {pt pt2 pos : Pos} (n : Nat) (hc : X.calm = true) (hN : X.N.Nodup) (hg : NGs X ts is) (he : SEs X W es xs) (hn : (assignEach ts X.env).length = n := by rfl) (hl : is.length = n := by rfl) (hsz : n ≤ sizeLine := by decide)
    (hst : (assignEach ts X.env).findIdx? (·.1) = none := by rfl) (hs : swapsWithSole [.Tuple ts kt pt] (.Tuple es k2 pt2) pos.line X.env = pure false := by rfl) (hw : swappedStores [.Tuple ts kt pt] (.Tuple es k2 pt2) X.env = pure none := by rfl)
    (h1 : (assignEach [.Tuple ts kt pt] X.env).map (·.2) = [assign (.Tuple ts kt pt) X.env] := by rfl) : SS X W (.Assign [.Tuple ts kt pt] (.Tuple es k2 pt2) pos) (sParN is xs) := ⟨fun M0 H0 hd M m σ H env ph s D q => tWS_of (ps_asg (pe_tup tWA_pa) tWG_pg hs hw h1) (by
  have := parN_run he is M σ H env ph σ env s s q
  intro po pins st I
  refine thn (this po pins st I) fun us st' ⟨vs, H', I', r', q'⟩ => ⟨vs, H', I', r', ?_⟩
  refine ⟨by rw [q'.1, hl]; exact hsz, fun p hp => ?_⟩
  exact tWG_of (pg_tup hc tWGs_pgs hn hst) ⟨p, vs, rfl, .inl (.inl upd_same), by rw [q'.1, hl], ngs_run hN hg vs σ _ _ q'.1 (q'.2 p _ hp)⟩)⟩
end
end Pyp

/-! How the words are read. -/
namespace Pyp
open PySem L2
@[simp] theorem eVar_s (i : Nat) (env : Env) (ph : PH) : eVar i env ph = (match env[i]? with
  | some (some v) => .ok v.read ph
  | _ => .bad) := rfl
@[simp] theorem eC_s (d : D) (z0 : Env) (ph : PH) : eC d z0 ph = (.ok (.d d) ph) := rfl
@[simp] theorem eBin_s (f : D → D → Option Val) (a b : Ex) (env : Env) (ph : PH) : eBin f a b env ph = ((a env ph).bind fun va ph1 => (b env ph1).bind fun vb ph2 => match va.cont ph2, vb.cont ph2 with
  | some x, some y => Res.of (f x y) ph2
  | _, _ => .bad) := rfl
@[simp] theorem tB_s (x : Ex) (env : Env) (ph : PH) : tB x env ph = ((x env ph).bind fun v ph1 => match v with
  | .d (.bl b) => .ok b ph1
  | _ => .bad) := rfl
@[simp] theorem tNot_s (t : Tx) (env : Env) (ph : PH) : tNot t env ph = ((t env ph).bind fun b ph1 => .ok (!b) ph1) := rfl
@[simp] theorem tAnd_s (t u : Tx) (env : Env) (ph : PH) : tAnd t u env ph = ((t env ph).bind fun b ph1 => if b = true then u env ph1 else .ok false ph1) := rfl
@[simp] theorem tOr_s (t u : Tx) (env : Env) (ph : PH) : tOr t u env ph = ((t env ph).bind fun b ph1 => if b = true then .ok true ph1 else u env ph1) := rfl
@[simp] theorem eAnd_s (x y : Ex) (env : Env) (ph : PH) : eAnd x y env ph = ((tB x env ph).bind fun b ph1 => if b = true then y env ph1 else .ok (.d (.bl false)) ph1) := rfl
@[simp] theorem eOr_s (x y : Ex) (env : Env) (ph : PH) : eOr x y env ph = ((tB x env ph).bind fun b ph1 => if b = true then .ok (.d (.bl true)) ph1 else y env ph1) := rfl
@[simp] theorem eNot_s (x : Ex) (env : Env) (ph : PH) : eNot x env ph = ((tB x env ph).bind fun b ph1 => .ok (.d (.bl (!b))) ph1) := rfl
@[simp] theorem eIf_s (t : Tx) (x y : Ex) (env : Env) (ph : PH) : eIf t x y env ph = ((t env ph).bind fun b ph1 => if b = true then x env ph1 else y env ph1) := rfl
@[simp] theorem aNil_s (z0 : Env) (ph : PH) : aNil  z0 ph = (.ok [] ph) := rfl
@[simp] theorem aCons_s (x : Ex) (xs : Ax) (env : Env) (ph : PH) : aCons x xs env ph = ((x env ph).bind fun v ph1 => (xs env ph1).bind fun vs ph2 => .ok (v :: vs) ph2) := rfl
@[simp] theorem eTup_s (xs : Ax) (env : Env) (ph : PH) : eTup xs env ph = ((xs env ph).bind fun vs ph1 => match dats vs with
  | some ds => if ds.length ≤ lim then .ok (.d (.tup ds)) ph1 else .bad
  | none => .bad) := rfl
@[simp] theorem eLst_s (xs : Ax) (env : Env) (ph : PH) : eLst xs env ph = ((xs env ph).bind fun vs ph1 => match dats vs with
  | some ds => if ds.length ≤ lim then .ok (.own (.lst ds)) ph1 else .bad
  | none => .bad) := rfl
@[simp] theorem sSeq_s (s t : Sx) (env : Env) (ph : PH) : sSeq s t env ph = ((s env ph).bind t) := rfl
@[simp] theorem sNx_s (env : Env) (ph : PH) : sNx  env ph = (.nx env ph) := rfl
@[simp] theorem sBk_s (env : Env) (ph : PH) : sBk  env ph = (.bk env ph) := rfl
@[simp] theorem sCt_s (env : Env) (ph : PH) : sCt  env ph = (.ct env ph) := rfl
@[simp] theorem sBad_s (z0 : Env) (z1 : PH) : sBad  z0 z1 = (.bad) := rfl
@[simp] theorem sDrop_s (x : Ex) (env : Env) (ph : PH) : sDrop x env ph = ((x env ph).bindS env fun _ ph1 => .nx env ph1) := rfl
@[simp] theorem sRet_s (x : Ex) (env : Env) (ph : PH) : sRet x env ph = ((x env ph).bindS env fun v ph1 => match retV v with
  | some w => .ret w ph1
  | none => .bad) := rfl
@[simp] theorem sRetN_s (z0 : Env) (ph : PH) : sRetN  z0 ph = (.ret (.d .non) ph) := rfl
@[simp] theorem sIf_s (t : Tx) (x y : Sx) (env : Env) (ph : PH) : sIf t x y env ph = ((t env ph).bindS env fun b ph1 => if b = true then x env ph1 else y env ph1) := rfl
@[simp] theorem sSet_s (i : Nat) (x : Ex) (env : Env) (ph : PH) : sSet i x env ph = ((x env ph).bindS env fun v ph1 => match v.dat with
  | some d => .nx (env.set i (some (.d d))) ph1
  | none => .bad) := rfl
@[simp] theorem sOwn_s (i : Nat) (x : Ex) (env : Env) (ph : PH) : sOwn i x env ph = ((x env ph).bindS env fun v ph1 => match v with
  | .own d => .nx (env.set i (some (.own d))) ph1
  | _ => .bad) := rfl
@[simp] theorem runF_s (n : Nat) (body : Sx) (args : List Val) (ph : PH) : runF n body args ph = (match body (args.map some ++ List.replicate (n - args.length) none) ph with
  | .ret v ph' => .ok v ph'
  | .nx _ ph' => .ok (.d .non) ph'
  | .exc c fs _ ph' => .exc c fs ph'
  | _ => .bad) := rfl
@[simp] theorem eCall_s (f : Fn) (xs : Ax) (env : Env) (ph : PH) : eCall f xs env ph = ((xs env ph).bind fun vs ph1 => match argsOf vs with
  | some as => f as ph1
  | none => .bad) := rfl
@[simp] theorem gN_s (i : Nat) (d : D) (env : Env) : gN i d env = (some (env.set i (some (.d d)))) := rfl
@[simp] theorem gsNil_s (ds : List D) (env : Env) : gsNil  ds env = (match ds with
  | [] => some env
  | _ => none) := rfl
@[simp] theorem gsCons_s (g : Gx) (gs : Gsx) (ds : List D) (env : Env) : gsCons g gs ds env = (match ds with
  | d :: ds => (g d env).bind fun env1 => gs ds env1
  | [] => none) := rfl
@[simp] theorem gT_s (n : Nat) (gs : Gsx) (d : D) (env : Env) : gT n gs d env = (match d with
  | .tup ds => if ds.length = n then gs ds env else none
  | .lst ds => if ds.length = n then gs ds env else none
  | _ => none) := rfl
@[simp] theorem sAsg_s (g : Gx) (x : Ex) (env : Env) (ph : PH) : sAsg g x env ph = ((x env ph).bindS env fun v ph1 => match v.dat.bind fun d => g d env with
  | some env1 => .nx env1 ph1
  | none => .bad) := rfl
@[simp] theorem iSeqX_s (b : Bool) (x : Ex) (env : Env) (ph : PH) : iSeqX b x env ph = ((x env ph).bind fun v ph1 => Res.of ((v.wlk b).bind seqD) ph1) := rfl
@[simp] theorem iEnumX_s (b : Bool) (xs : Ax) (env : Env) (ph : PH) : iEnumX b xs env ph = ((xs env ph).bind fun vs ph1 => match vs with
  | [v] => Res.of (((v.wlk b).bind seqD).map (enumD 0)) ph1
  | _ => .bad) := rfl
@[simp] theorem iZipX_s (b : Bool) (xs : Ax) (env : Env) (ph : PH) : iZipX b xs env ph = ((xs env ph).bind fun vs ph1 => match vs with
  | [v, w] => match (v.wlk b).bind seqD, (w.wlk b).bind seqD with
    | some ds, some es => .ok (zipD ds es) ph1
    | _, _ => .bad
  | _ => .bad) := rfl
@[simp] theorem iRng1X_s (xs : Ax) (env : Env) (ph : PH) : iRng1X xs env ph = ((xs env ph).bind rngE1) := rfl
@[simp] theorem iRng2X_s (xs : Ax) (env : Env) (ph : PH) : iRng2X xs env ph = ((xs env ph).bind rngE2) := rfl
@[simp] theorem iRng3X_s (xs : Ax) (env : Env) (ph : PH) : iRng3X xs env ph = ((xs env ph).bind rngE3) := rfl
@[simp] theorem sFor_s (g : Gx) (it : Ix) (b : Sx) (env : Env) (ph : PH) : sFor g it b env ph = ((it env ph).bindS env fun ds ph1 => forL g b ds env ph1) := rfl
@[simp] theorem tYesX_s (z0 : Env) (ph : PH) : tYesX  z0 ph = (.ok true ph) := rfl
@[simp] theorem eComp_s (own : List Nat) (g : Gx) (it : Ix) (t : Tx) (x : Ex) (env : Env) (ph : PH) : eComp own g it t x env ph = ((it env ph).bind fun ds ph1 => (compL g t x (wipeE env own) ds [] ph1).bind fun out ph2 => .ok (.own (.lst out)) ph2) := rfl
@[simp] theorem eNeg_s (x : Ex) (env : Env) (ph : PH) : eNeg x env ph = ((x env ph).bind fun v ph1 => match v with
  | .d (.int i) => .ok (.d (.int (-i))) ph1
  | _ => .bad) := rfl
@[simp] theorem eChain_s (f g : D → D → Option Val) (a b c : Ex) (env : Env) (ph : PH) : eChain f g a b c env ph = ((a env ph).bind fun va ph1 => (b env ph1).bind fun vb ph2 => match va, vb with
  | .d x, .d y => match f x y with
    | some (.d (.bl true)) => (c env ph2).bind fun vc ph3 => match vc.cont ph3 with
      | some z => Res.of (g y z) ph3
      | _ => .bad
    | some (.d (.bl false)) => .ok (.d (.bl false)) ph2
    | _ => .bad
  | _, _ => .bad) := rfl
@[simp] theorem pNo_s (z0 : Env) (ph : PH) : pNo  z0 ph = (.ok none ph) := rfl
@[simp] theorem pAt_s (x : Ex) (env : Env) (ph : PH) : pAt x env ph = ((x env ph).bind fun v ph1 => match v with
  | .d (.int i) => .ok (some i) ph1
  | _ => .bad) := rfl
@[simp] theorem eCut_s (a : Ex) (lo hi : Px) (env : Env) (ph : PH) : eCut a lo hi env ph = ((a env ph).bind fun v ph1 => (lo env ph1).bind fun l ph2 => (hi env ph2).bind fun h ph3 => match v.cont ph3 with
  | some d => Res.of (dCut d l h) ph3
  | none => .bad) := rfl
@[simp] theorem eB_s (f : List D → Option Val) (xs : Ax) (env : Env) (ph : PH) : eB f xs env ph = ((xs env ph).bind fun vs ph1 => match conts ph1 vs with
  | some ds => Res.of (f ds) ph1
  | none => .bad) := rfl
@[simp] theorem eIsi_s (ts : List Ty) (x : Ex) (env : Env) (ph : PH) : eIsi ts x env ph = ((x env ph).bind fun v ph1 => match v.cont ph1 with
  | some d => .ok (.d (.bl (ts.any fun t => isTy t d))) ph1
  | none => .bad) := rfl
@[simp] theorem eSortU_s (x : Ex) (env : Env) (ph : PH) : eSortU x env ph = ((x env ph).bind fun v ph1 => match v.cont ph1 with
  | some d => Res.of (dSortU d) ph1
  | none => .bad) := rfl
@[simp] theorem eD_s (f : D → Option Val) (x : Ex) (env : Env) (ph : PH) : eD f x env ph = ((x env ph).bind fun v ph1 => match v.cont ph1 with
  | some d => Res.of (f d) ph1
  | none => .bad) := rfl
@[simp] theorem sPut_s (i : Nat) (ix x : Ex) (env : Env) (ph : PH) : sPut i ix x env ph = (match env[i]? with
  | some (some (.own (.lst ds))) => (x env ph).bindS env fun v ph1 => (ix env ph1).bindS env fun k ph2 => match v.dat, k with
    | some d, .d (.int k) => match ixN ds.length k with
      | some j => .nx (env.set i (some (.own (.lst (ds.set j d))))) ph2
      | none => .bad
    | _, _ => .bad
  | some (some (.ref n)) => (x env ph).bindS env fun v ph1 => (ix env ph1).bindS env fun k ph2 => match v.dat, k, ph2[n]? with
    | some d, .d (.int k), some (.lst ds) => match ixN ds.length k with
      | some j => .nx env (ph2.set n (.lst (ds.set j d)))
      | none => .bad
    | _, _, _ => .bad
  | _ => .bad) := rfl
@[simp] theorem eCallC_s (f : Fn) (x : Ex) (env : Env) (ph : PH) : eCallC f x env ph = ((x env ph).bind fun v ph1 => match v with
  | .own d => popC (f [.ref ph1.length] (ph1 ++ [d]))
  | _ => .bad) := rfl
@[simp] theorem sCell_s (i : Nat) (b : Sx) (env : Env) (ph : PH) : sCell i b env ph = (match env[i]? with
  | some (some (.own x)) => match b (env.set i (some (.ref ph.length))) (ph ++ [x]) with
    | .ret v ph' => if popV v = true then .ret v ph'.dropLast else .bad
    | _ => .bad
  | _ => .bad) := rfl
@[simp] theorem gTS_s (n : Nat) (gs : Gsx) (d : D) (env : Env) : gTS n gs d env = (match d with
  | .tup ds => if n ≤ ds.length then gs (ds.take n ++ [.lst (ds.drop n)]) env else none
  | _ => none) := rfl
@[simp] theorem sRaise_s (c f : Str) (x : Ex) (env : Env) (ph : PH) : sRaise c f x env ph = ((x env ph).bindS env fun v ph1 => match v.dat with
  | some d => .exc c [(f, d)] env ph1
  | none => .bad) := rfl
@[simp] theorem sTryF_s (c f : Str) (tag : List Nat) (b : Sx) (env : Env) (ph : PH) : sTryF c f tag b env ph = (match b env ph with
  | .exc c' fs _ ph2 => tryF c f tag c' fs ph2
  | o => o) := rfl
@[simp] theorem sFz_s (i : Nat) (s : Sx) (env : Env) (ph : PH) : sFz i s env ph = (match env[i]? with
  | some (some (.own x)) => s (env.set i (some (.d x))) ph
  | _ => s env ph) := rfl
@[simp] theorem sVar_s (i : Nat) (x : Ex) (env : Env) (ph : PH) : sVar i x env ph = ((x env ph).bindS env (varEnd i env)) := rfl
@[simp] theorem sPar_s (is : List Nat) (xs : Ax) (env : Env) (ph : PH) : sPar is xs env ph = ((xs env ph).bindS env fun vs ph1 => match is, dats vs with
  | [i, j], some [d, e] => .nx ((env.set i (some (.d d))).set j (some (.d e))) ph1
  | [i, j, k], some [d, e, f] => .nx (((env.set i (some (.d d))).set j (some (.d e))).set k (some (.d f))) ph1
  | _, _ => .bad) := rfl
@[simp] theorem eOrT_s (x y : Ex) (env : Env) (ph : PH) : eOrT x y env ph = ((x env ph).bind fun v ph1 => orEnd v y env ph1) := rfl
@[simp] theorem rngE1_s (j : Int) (ph : PH) : rngE1 [.d (.int j)] ph = bif okR j then .ok (rngD 0 j.toNat) ph else .bad := Eq.trans rfl rfl
@[simp] theorem rngE2_s (i j : Int) (ph : PH) : rngE2 [.d (.int i), .d (.int j)] ph = bif okR i && okR j then .ok (rngD i (j - i).toNat) ph else .bad := Eq.trans rfl rfl
@[simp] theorem rngE3_s (i j k : Int) (ph : PH) : rngE3 [.d (.int i), .d (.int j), .d (.int k)] ph = bif okR i && okR j && (k == -1) then .ok (rngDn i (i - j).toNat) ph else .bad := Eq.trans rfl rfl
theorem mul_r {i j : Int} (h : 0 ≤ j) (h2 : j < 18446744073709551616) : mulOk i j = true := by
  unfold mulOk
  rw [Bool.or_eq_true, decide_eq_true_eq, decide_eq_true_eq]
  exact .inr (by omega)
theorem mul_l {i j : Int} (h : 0 ≤ i) (h2 : i < 18446744073709551616) : mulOk i j = true := by
  unfold mulOk
  rw [Bool.or_eq_true, decide_eq_true_eq, decide_eq_true_eq]
  exact .inl (by omega)
theorem div_ok {j : Int} (h : 0 < j) (h2 : j < 1073741824) : divOk j = true := by
  unfold divOk
  rw [Bool.and_eq_true, decide_eq_true_eq, decide_eq_true_eq]
  exact ⟨h, by omega⟩
section
variable {x : D} {n : Nat} {ph : PH} {v : Val} {vs : List Val} {i j : Int} {b c : Bool} {ds es : List D}
@[simp] theorem read_d : (Val.d x).read = .d x := rfl
@[simp] theorem read_own : (Val.own x).read = .bor x := rfl
@[simp] theorem read_bor : (Val.bor x).read = .bor x := rfl
@[simp] theorem read_ref : (Val.ref n).read = .ref n := rfl
@[simp] theorem cont_d : (Val.d x).cont ph = some x := rfl
@[simp] theorem cont_own : (Val.own x).cont ph = some x := rfl
@[simp] theorem cont_bor : (Val.bor x).cont ph = some x := rfl
@[simp] theorem cont_ref : (Val.ref n).cont ph = ph[n]? := rfl
@[simp] theorem dat_d : (Val.d x).dat = some x := rfl
@[simp] theorem dat_own : (Val.own x).dat = some x := rfl
@[simp] theorem conts_nil : conts ph [] = some [] := rfl
@[simp] theorem conts_cons : conts ph (v :: vs) = (match v.cont ph, conts ph vs with
  | some d, some ds => some (d :: ds)
  | _, _ => none) := rfl
@[simp] theorem dats_nil : dats [] = some [] := rfl
@[simp] theorem dats_cons : dats (v :: vs) = (match v.dat, dats vs with
  | some d, some ds => some (d :: ds)
  | _, _ => none) := rfl
@[simp] theorem argsOf_nil : argsOf [] = some [] := rfl
@[simp] theorem argsOf_cons : argsOf (v :: vs) = (match argOf v, argsOf vs with
  | some y, some ys => some (y :: ys)
  | _, _ => none) := rfl
@[simp] theorem argOf_d : argOf (.d x) = some (.d x) := rfl
@[simp] theorem argOf_own : argOf (.own x) = some (.d x) := rfl
@[simp] theorem argOf_ref : argOf (.ref n) = some (.ref n) := rfl
@[simp] theorem retV_d : retV (.d x) = some (.d x) := rfl
@[simp] theorem retV_own : retV (.own x) = some (.own x) := rfl
@[simp] theorem see_d : (Val.d x).see = some x := rfl
@[simp] theorem see_own : (Val.own x).see = some x := rfl
@[simp] theorem see_bor : (Val.bor x).see = some x := rfl
@[simp] theorem wlk_t : Val.wlk true v = v.dat := rfl
@[simp] theorem wlk_f : Val.wlk false v = v.see := rfl
@[simp] theorem seqD_tup : seqD (.tup ds) = some ds := rfl
@[simp] theorem seqD_lst : seqD (.lst ds) = some ds := rfl
@[simp] theorem dAdd_int : dAdd (.int i) (.int j) = some (.d (.int (i + j))) := rfl
@[simp] theorem dSub_int : dSub (.int i) (.int j) = some (.d (.int (i - j))) := rfl
@[simp] theorem dMul_int : dMul (.int i) (.int j) = if mulOk i j = true then some (.d (.int (i * j))) else none := Eq.trans rfl rfl
@[simp] theorem dDiv_int : dDiv (.int i) (.int j) = if divOk j = true then some (.d (.int (i / j))) else none := Eq.trans rfl rfl
@[simp] theorem dMod_int : dMod (.int i) (.int j) = if 0 < j then some (.d (.int (i % j))) else none := Eq.trans rfl rfl
@[simp] theorem dLt_int : dLt (.int i) (.int j) = some (.d (.bl (decide (i < j)))) := rfl
@[simp] theorem dLe_int : dLe (.int i) (.int j) = some (.d (.bl (decide (i ≤ j)))) := rfl
@[simp] theorem dGt_int : dGt (.int i) (.int j) = some (.d (.bl (decide (j < i)))) := rfl
@[simp] theorem dGe_int : dGe (.int i) (.int j) = some (.d (.bl (decide (j ≤ i)))) := rfl
@[simp] theorem dEq_int : dEq (.int i) (.int j) = some (.d (.bl (i == j))) := rfl
@[simp] theorem dNe_int : dNe (.int i) (.int j) = some (.d (.bl (!(i == j)))) := rfl
@[simp] theorem dEq_bl : dEq (.bl b) (.bl c) = some (.d (.bl (b == c))) := rfl
@[simp] theorem dNe_bl : dNe (.bl b) (.bl c) = some (.d (.bl (!(b == c)))) := rfl
@[simp] theorem bLen_tup : bLen [.tup ds] = some (.d (.int ds.length)) := rfl
@[simp] theorem bLen_lst : bLen [.lst ds] = some (.d (.int ds.length)) := rfl
@[simp] theorem bLen_fz {ns : List Int} : bLen [.fz ns] = some (.d (.int ns.length)) := rfl
@[simp] theorem bAbs_int : bAbs [.int i] = some (.d (.int (if i < 0 then -i else i))) := rfl
@[simp] theorem bInt_int : bInt [.int i] = some (.d (.int i)) := rfl
@[simp] theorem bInt_bl : bInt [.bl b] = some (.d (.int (if b then 1 else 0))) := rfl
@[simp] theorem bTup_tup : bTup [.tup ds] = some (.d (.tup ds)) := rfl
@[simp] theorem bTup_lst : bTup [.lst ds] = some (.d (.tup ds)) := rfl
@[simp] theorem bLst_tup : bLst [.tup ds] = some (.own (.lst ds)) := rfl
@[simp] theorem bLst_lst : bLst [.lst ds] = some (.own (.lst ds)) := rfl
@[simp] theorem bMax_int : bMax [.int i, .int j] = some (.d (.int (if j > i then j else i))) := rfl
@[simp] theorem bMin_int : bMin [.int i, .int j] = some (.d (.int (if j < i then j else i))) := rfl
@[simp] theorem dCut_tup {lo hi : Option Int} : dCut (.tup ds) lo hi = some (.d (.tup (cutL ds lo hi))) := rfl
@[simp] theorem dCut_lst {lo hi : Option Int} : dCut (.lst ds) lo hi = some (.own (.lst (cutL ds lo hi))) := rfl
@[simp] theorem dCut_fz {ns : List Int} {lo hi : Option Int} : dCut (.fz ns) lo hi = some (.own (.lst ((cutL ns lo hi).map .int))) := rfl
@[simp] theorem dRev_tup : dRev (.tup ds) = some (.d (.tup ds.reverse)) := rfl
@[simp] theorem dRev_lst : dRev (.lst ds) = some (.own (.lst ds.reverse)) := rfl
@[simp] theorem dIx_tup : dIx (.tup ds) (.int i) = (atI ds i).map .d := rfl
@[simp] theorem dIx_lst : dIx (.lst ds) (.int i) = (atI ds i).map .d := rfl
@[simp] theorem dIx_fz {ns : List Int} : dIx (.fz ns) (.int i) = (atI ns i).map fun n => .d (.int n) := rfl
@[simp] theorem popV_d : popV (.d x) = true := rfl
@[simp] theorem popV_own : popV (.own x) = true := rfl
@[simp] theorem popC_ok : popC (.ok v ph) = if popV v = true then .ok v ph.dropLast else .bad := rfl
@[simp] theorem varEnd_own {env : Env} : varEnd n env (.own x) ph = .nx (env.set n (some (.own x))) ph := rfl
@[simp] theorem varEnd_d {env : Env} : varEnd n env (.d x) ph = .nx (env.set n (some (.d x))) ph := rfl
@[simp] theorem wipeE_nil {env : Env} : wipeE env [] = env := rfl
@[simp] theorem wipeE_cons {env : Env} {k : Nat} {ks : List Nat} : wipeE env (k :: ks) = (wipeE env ks).set k none := rfl
@[simp] theorem bAll_lst : bAll [.lst ds] = (bls ds).map fun bs => .d (.bl (bs.all id)) := rfl
@[simp] theorem forL_nil {g : Gx} {b : Sx} {env : Env} : forL g b [] env ph = .nx env ph := rfl
theorem forL_cons {g : Gx} {b : Sx} {env : Env} : forL g b (x :: ds) env ph = (match g x env with
  | some env1 => match b env1 ph with
    | .nx env2 ph2 => forL g b ds env2 ph2
    | .ct env2 ph2 => forL g b ds env2 ph2
    | .bk env2 ph2 => .nx env2 ph2
    | o => o
  | none => .bad) := rfl
@[simp] theorem compL_nil {g : Gx} {t : Tx} {e : Ex} {env : Env} : compL g t e env [] ds ph = .ok ds ph := rfl
theorem compL_cons {g : Gx} {t : Tx} {e : Ex} {env : Env} : compL g t e env (x :: ds) es ph = (match g x env with
  | some env1 => match t env1 ph with
    | .ok true ph1 => match e env1 ph1 with
      | .ok v ph2 => match v.dat with
        | some y => if es.length < lim then compL g t e env ds (es ++ [y]) ph2 else .bad
        | none => .bad
      | _ => .bad
    | .ok false ph1 => compL g t e env ds es ph1
    | _ => .bad
  | none => .bad) := rfl
@[simp] theorem at0 {a : D} : atI (a :: ds) 0 = some a := by simp [atI, ixN]
@[simp] theorem at1 {a a' : D} : atI (a :: a' :: ds) 1 = some a' := by
  unfold atI ixN
  rw [if_pos (by decide), if_pos (by simp; omega)]; rfl
@[simp] theorem at2 {a a' a'' : D} : atI (a :: a' :: a'' :: ds) 2 = some a'' := by
  unfold atI ixN
  rw [if_pos (by decide), if_pos (by simp; omega)]; rfl
end

end Pyp

/-! How the later words are read. -/
namespace Pyp
open PySem L2
@[simp] theorem parEnd_s (i j : Nat) (env : Env) (v w : Val) (ph : PH) : parEnd i j env v w ph = (varEnd i env v ph).bind fun env1 ph1 => varEnd j env1 w ph1 := rfl
@[simp] theorem sParV_s (i j : Nat) (x y : Ex) (env : Env) (ph : PH) : sParV i j x y env ph = ((x env ph).bindS env fun v ph1 => (y env ph1).bindS env fun w ph2 => parEnd i j env v w ph2) := rfl
@[simp] theorem sAppPop_s (i j : Nat) (xs : Ax) (env : Env) (ph : PH) : sAppPop i j xs env ph = (match env[i]?, env[j]? with
  | some (some (.own (.lst ds))), some (some (.own (.lst es))) => (xs env ph).bindS env fun vs ph1 => match dats vs with
    | some [.int z] => appPop i j ds es z env ph1
    | _ => .bad
  | _, _ => .bad) := rfl
@[simp] theorem eLRg1_s (x : Ex) (env : Env) (ph : PH) : eLRg1 x env ph = (x env ph).bind lstRg1 := rfl
@[simp] theorem eLRg2_s (x y : Ex) (env : Env) (ph : PH) : eLRg2 x y env ph = (x env ph).bind fun v ph1 => (y env ph1).bind fun w ph2 => lstRg2 v w ph2 := rfl
@[simp] theorem lstRg1_s (j : Int) (ph : PH) : lstRg1 (.d (.int j)) ph = bif okR j then .ok (.own (.lst (rngD 0 j.toNat))) ph else .bad := Eq.trans rfl rfl
@[simp] theorem lstRg2_s (i j : Int) (ph : PH) : lstRg2 (.d (.int i)) (.d (.int j)) ph = bif okR i && okR j then .ok (.own (.lst (rngD i (j - i).toNat))) ph else .bad := Eq.trans rfl rfl
@[simp] theorem dSortI_s (ds : List D) : dSortI (.lst ds) = (intsD ds).map fun ns => .own (.lst ((sortI ns).map .int)) := rfl
@[simp] theorem eComp2_s (own own1 : List Nat) (g : Gx) (it : Ix) (t : Tx) (g1 : Gx) (it1 : Ix) (t1 : Tx) (x : Ex) (env : Env) (ph : PH) : eComp2 own own1 g it t g1 it1 t1 x env ph = ((it env ph).bind fun ds ph1 => (compL2 g t it1 own1 g1 t1 x (wipeE env own) ds [] ph1).bind fun out ph2 => .ok (.own (.lst out)) ph2) := rfl
@[simp] theorem compL2_nil (g : Gx) (t : Tx) (it1 : Ix) (own1 : List Nat) (g1 : Gx) (t1 : Tx) (x : Ex) (env : Env) (acc : List D) (ph : PH) : compL2 g t it1 own1 g1 t1 x env [] acc ph = .ok acc ph := rfl
theorem compL2_cons (g : Gx) (t : Tx) (it1 : Ix) (own1 : List Nat) (g1 : Gx) (t1 : Tx) (x : Ex) (env : Env) (d : D) (ds acc : List D) (ph : PH) : compL2 g t it1 own1 g1 t1 x env (d :: ds) acc ph = (match g d env with
    | some env1 => (t env1 ph).only fun b ph1 => bif b then (it1 env1 ph1).only fun ds1 ph2 => (compL g1 t1 x (wipeE env1 own1) ds1 acc ph2).only fun acc2 ph3 => compL2 g t it1 own1 g1 t1 x env ds acc2 ph3
        else compL2 g t it1 own1 g1 t1 x env ds acc ph1
    | none => .bad) := rfl
@[simp] theorem sParN_s (is : List Nat) (xs : List Ex) (env : Env) (ph : PH) : sParN is xs env ph = parN is xs env env ph := rfl
@[simp] theorem parN_nil (env env1 : Env) (ph : PH) : parN [] [] env env1 ph = .nx env1 ph := rfl
@[simp] theorem parN_cons (i : Nat) (is : List Nat) (x : Ex) (xs : List Ex) (env env1 : Env) (ph : PH) : parN (i :: is) (x :: xs) env env1 ph = ((x env ph).bindS env fun v ph1 => (varEnd i env1 v ph1).bind fun env2 ph2 => parN is xs env env2 ph2) := rfl
end Pyp

/-! A comprehension within a comprehension. -/
namespace Pyp
open PySem PySem.Spec PyProof.Rows L2
theorem lookup_map_free (P : Str → NameKind → Bool) (hP : ∀ n k, P n k = true → k = .free) : ∀ {names : List (Str × NameKind)} {x : Str}, (names.lookup x = some .cell ∨ names.lookup x = some .free) →
    ((names.map fun y => if P y.1 y.2 = true then (y.1, NameKind.cell) else (y.1, y.2)).lookup x = some .cell ∨ (names.map fun y => if P y.1 y.2 = true then (y.1, NameKind.cell) else (y.1, y.2)).lookup x = some .free)
  | [], x, h => by simp at h
  | (n, k) :: rest, x, h => by
    rw [List.map_cons]
    by_cases hc : P n k = true
    · rw [if_pos hc]
      by_cases hx : (x == n) = true
      · left; simp only [List.lookup, hx]
      · have hx' : (x == n) = false := by simpa using hx
        simp only [List.lookup, hx'] at h ⊢
        exact lookup_map_free P hP h
    · rw [if_neg hc]
      by_cases hx : (x == n) = true
      · simp only [List.lookup, hx] at h ⊢
        exact h
      · have hx' : (x == n) = false := by simpa using hx
        simp only [List.lookup, hx'] at h ⊢
        exact lookup_map_free P hP h
theorem lookup_relabel_free {scope : Scope} {env : PySem.Env} {x : Str} (h : scope.names.lookup x = some .cell ∨ scope.names.lookup x = some .free) : (relabel scope env).names.lookup x = some .cell ∨ (relabel scope env).names.lookup x = some .free :=
  lookup_map_free (fun n k => k == .free && env.scope.kind == .function && env.kindOf n == some .cell) (fun n k e => by
    simp only [Bool.and_eq_true] at e
    exact eq_of_beq e.1.1) h
theorem blkOk_nest {N : List Str} {scope sc2 : Scope} {env : PySem.Env} {own : List (Str × Nat)} (h : blkC N scope sc2 own = true) : BlkOk N (relabel scope env) sc2 own :=
  let b := blkOk_by h
  ⟨b.kind, b.uniq, b.ix, fun y hy e => lookup_relabel_free (b.free y hy e), b.own⟩
end Pyp

namespace Pyp
open PySem L2
def f__law_found : Fn := runF 6 (sSeq (sIf (tB (eBin dEq (eVar 2) (eC (.str [110, 101, 120, 116]))))
    (sSeq (sSet 4 (eComp [5] (gN 5) (iRng2X (aCons (eBin dAdd (eVar 1) (eC (.int 1))) (aCons (eBin dAdd (eB bLen (aCons (eVar 0) aNil)) (eC (.int 1))) aNil))) (tB (eBin dIn (eBin dIx (eVar 0) (eBin dSub (eVar 5) (eC (.int 1)))) (eVar 3))) (eVar 5)))
    (sRet (eIf (tB (eBin dNe (eVar 4) (eLst aNil))) (eBin dIx (eVar 4) (eC (.int 0))) (eBin dAdd (eB bLen (aCons (eVar 0) aNil)) (eC (.int 1))))))
    sNx)
  (sSeq (sSet 4 (eComp [5] (gN 5) (iRng2X (aCons (eC (.int 1)) (aCons (eVar 1) aNil))) (tB (eBin dIn (eBin dIx (eVar 0) (eBin dSub (eVar 5) (eC (.int 1)))) (eVar 3))) (eVar 5)))
  (sRet (eIf (tB (eBin dNe (eVar 4) (eLst aNil))) (eBin dIx (eVar 4) (eNeg (eC (.int 1)))) (eC (.int 0))))))
def f__law_run : Fn := runF 10 (sSeq (sParN [2, 3, 4, 5] [(eLst (aCons (eC (.int 0)) (aCons (eBin dAdd (eB bLen (aCons (eVar 1) aNil)) (eC (.int 1))) aNil))), (eLst aNil), (eC (.int 0)), (eLst (aCons (eC (.int 0)) aNil))])
  (sSeq (sWhile (tB (eBin dNe (eBin dIx (eBin dIx (eVar 0) (eVar 4)) (eC (.int 0))) (eC (.str [115, 97, 121]))))
    (sSeq (sSet 6 (eBin dIx (eVar 0) (eVar 4)))
    (sSeq (sIf (tB (eBin dEq (eBin dIx (eVar 6) (eC (.int 0))) (eC (.str [97, 115, 107]))))
      (sSeq (sSet 7 (eCall f__law_found (aCons (eVar 1) (aCons (eBin dIx (eVar 2) (eBin dIx (eVar 6) (eC (.int 1)))) (aCons (eBin dIx (eVar 6) (eC (.int 2))) (aCons (eBin dIx (eVar 6) (eC (.int 3))) aNil))))))
      (sSeq (sMut 3 fApp (aCons (eTup (aCons (eBin dIx (eVar 6) (eC (.int 1))) (aCons (eBin dIx (eVar 6) (eC (.int 2))) (aCons (eBin dIx (eVar 2) (eBin dIx (eVar 6) (eC (.int 1)))) (aCons (eVar 7) (aCons (eBin dIx (eVar 6) (eC (.int 3))) aNil)))))) aNil))
      (sSeq (sMut 2 fApp (aCons (eVar 7) aNil))
      (sSet 4 (eBin dIx (eVar 6) (eC (.int 4)))))))
      (sSeq (sPar [8, 9] (aCons (eBin dIx (eVar 2) (eBin dIx (eVar 6) (eC (.int 1)))) (aCons (eBin dIx (eVar 2) (eBin dIx (eVar 6) (eC (.int 2)))) aNil)))
      (sSet 4 (eIf (tB (eBin dLt (eVar 8) (eVar 9))) (eBin dIx (eVar 6) (eC (.int 3))) (eIf (tB (eBin dEq (eVar 8) (eVar 9))) (eBin dIx (eVar 6) (eC (.int 4))) (eBin dIx (eVar 6) (eC (.int 5))))))))
    (sMut 5 fApp (aCons (eVar 4) aNil)))) 100000)
  (sFz 5 (sFz 3 (sRet (eTup (aCons (eVar 3) (aCons (eBin dIx (eBin dIx (eVar 0) (eVar 4)) (eC (.int 1))) (aCons (eVar 5) aNil)))))))))
def f__law_take : Fn := runF 6 (sSeq (sIf (tB (eBin dGt (eBin dIx (eVar 0) (eC (.int 0))) (eC (.int 0))))
    (sSeq (sSet 2 (eBin dMod (eB bInt (aCons (eBin dIx (eVar 0) (eC (.int 0))) aNil)) (eVar 1)))
    (sSeq (sPut 0 (eC (.int 0)) (eBin dDiv (eBin dIx (eVar 0) (eC (.int 0))) (eVar 1)))
    (sRet (eVar 2))))
    sNx)
  (sSeq (sPut 0 (eC (.int 2)) (eBin dAdd (eBin dIx (eVar 0) (eC (.int 2))) (eC (.int 1))))
  (sSeq (sSet 3 (eBin dMod (eB bInt (aCons (eBin dMul (eBin dAdd (eBin dIx (eVar 0) (eC (.int 1))) (eBin dMul (eC (.int 48271)) (eBin dIx (eVar 0) (eC (.int 2))))) (eBin dAdd (eC (.int 39373)) (eBin dIx (eVar 0) (eC (.int 2))))) aNil)) (eC (.int 2147483647))))
  (sSeq (sSet 4 (eBin dAdd (eBin dMod (eB bInt (aCons (eVar 3) aNil)) (eC (.int 40009))) (eC (.int 7))))
  (sSeq (sSet 5 (eBin dMod (eB bInt (aCons (eBin dMul (eBin dAdd (eBin dAdd (eVar 3) (eBin dIx (eVar 0) (eC (.int 2)))) (eBin dDiv (eBin dIx (eVar 0) (eC (.int 1))) (eC (.int 1000003)))) (eVar 4)) aNil)) (eC (.int 2147483629))))
  (sRet (eBin dMod (eB bInt (aCons (eBin dDiv (eBin dMod (eB bInt (aCons (eBin dAdd (eBin dMul (eVar 5) (eC (.int 48271))) (eVar 3)) aNil)) (eC (.int 2147483587))) (eC (.int 64))) aNil)) (eVar 1))))))))
def f__law_pick : Fn := runF 6 (sSeq (sParV 3 4 (eB bLst (aCons (eVar 1) aNil)) (eLst aNil))
  (sSeq (sFor (gN 5) (iRng1X (aCons (eB bMin (aCons (eB bInt (aCons (eVar 2) aNil)) (aCons (eB bLen (aCons (eVar 3) aNil)) aNil))) aNil))
    (sAppPop 4 3 (aCons (eCall f__law_take (aCons (eVar 0) (aCons (eB bLen (aCons (eVar 3) aNil)) aNil))) aNil)))
  (sFz 4 (sRet (eVar 4)))))
def f__law_of : Fn := runF 2 (sRet (eBin dIx (eVar 1) (eCall f__law_take (aCons (eVar 0) (aCons (eB bLen (aCons (eVar 1) aNil)) aNil)))))
def f__law_letters_of : Fn := runF 3 (sSeq (sSet 2 (eD dSortI (eCall f__law_pick (aCons (eVar 0) (aCons (eLRg2 (eC (.int 1)) (eBin dAdd (eVar 1) (eC (.int 1)))) (aCons (eBin dAdd (eC (.int 1)) (eCall f__law_take (aCons (eVar 0) (aCons (eVar 1) aNil)))) aNil))))))
  (sRet (eB bTup (aCons (eVar 2) aNil))))
def f__law_ask : Fn := runF 4 (sRet (eTup (aCons (eC (.str [97, 115, 107])) (aCons (eCall f__law_take (aCons (eVar 0) (aCons (eBin dAdd (eVar 2) (eC (.int 2))) aNil))) (aCons (eCall f__law_of (aCons (eVar 0) (aCons (eLst (aCons (eC (.str [110, 101, 120, 116])) (aCons (eC (.str [108, 97, 115, 116])) aNil))) aNil))) (aCons (eCall f__law_letters_of (aCons (eVar 0) (aCons (eVar 1) aNil))) (aCons (eVar 3) aNil)))))))
def f__law_order : Fn := runF 4 (sSeq (sSet 3 (eCall f__law_pick (aCons (eVar 0) (aCons (eLRg1 (eBin dAdd (eVar 1) (eC (.int 2)))) (aCons (eC (.int 2)) aNil)))))
  (sRet (eBin dAdd (eTup (aCons (eC (.str [111, 114, 100, 101, 114])) (aCons (eBin dIx (eVar 3) (eC (.int 0))) (aCons (eBin dIx (eVar 3) (eC (.int 1))) aNil)))) (eB bTup (aCons (eCall f__law_pick (aCons (eVar 0) (aCons (eVar 2) (aCons (eC (.int 3)) aNil)))) aNil)))))
def f__law_tree : Fn := runF 5 (sSeq (sIf (tB (eBin dEq (eCall f__law_take (aCons (eVar 0) (aCons (eC (.int 3)) aNil))) (eC (.int 0))))
    (sSeq (sSet 2 (eLst (aCons (eCall f__law_ask (aCons (eVar 0) (aCons (eVar 1) (aCons (eC (.int 0)) (aCons (eC (.int 1)) aNil))))) (aCons (eCall f__law_order (aCons (eVar 0) (aCons (eC (.int 1)) (aCons (eLst (aCons (eC (.int 2)) (aCons (eC (.int 3)) (aCons (eBin dAdd (eC (.int 2)) (eCall f__law_take (aCons (eVar 0) (aCons (eC (.int 2)) aNil)))) aNil)))) aNil)))) (aCons (eCall f__law_ask (aCons (eVar 0) (aCons (eVar 1) (aCons (eC (.int 1)) (aCons (eC (.int 4)) aNil))))) (aCons (eCall f__law_ask (aCons (eVar 0) (aCons (eVar 1) (aCons (eC (.int 1)) (aCons (eC (.int 4)) aNil))))) (aCons (eCall f__law_order (aCons (eVar 0) (aCons (eC (.int 2)) (aCons (eLst (aCons (eC (.int 5)) (aCons (eC (.int 6)) (aCons (eBin dAdd (eC (.int 5)) (eCall f__law_take (aCons (eVar 0) (aCons (eC (.int 2)) aNil)))) aNil)))) aNil)))) aNil)))))))
    (sRet (eBin dAdd (eB bTup (aCons (eVar 2) aNil)) (eTup (aCons (eTup (aCons (eC (.str [115, 97, 121])) (aCons (eC (.bl true)) aNil))) (aCons (eTup (aCons (eC (.str [115, 97, 121])) (aCons (eC (.bl false)) aNil))) aNil))))))
    sNx)
  (sSeq (sSet 3 (eBin dAdd (eC (.int 1)) (eCall f__law_take (aCons (eVar 0) (aCons (eC (.int 3)) aNil)))))
  (sSeq (sSet 2 (eComp [4] (gN 4) (iRng1X (aCons (eVar 3) aNil)) tYesX (eCall f__law_ask (aCons (eVar 0) (aCons (eVar 1) (aCons (eVar 4) (aCons (eBin dAdd (eVar 4) (eC (.int 1))) aNil)))))))
  (sSeq (sSet 2 (eBin dAdd (eVar 2) (eLst (aCons (eCall f__law_order (aCons (eVar 0) (aCons (eVar 3) (aCons (eLst (aCons (eBin dAdd (eVar 3) (eC (.int 1))) (aCons (eBin dAdd (eVar 3) (eC (.int 2))) (aCons (eBin dAdd (eVar 3) (eC (.int 3))) aNil)))) aNil)))) (aCons (eCall f__law_order (aCons (eVar 0) (aCons (eVar 3) (aCons (eLst (aCons (eBin dAdd (eVar 3) (eC (.int 2))) (aCons (eBin dAdd (eVar 3) (eC (.int 3))) (aCons (eBin dAdd (eBin dAdd (eVar 3) (eC (.int 2))) (eCall f__law_take (aCons (eVar 0) (aCons (eC (.int 2)) aNil)))) aNil)))) aNil)))) aNil)))))
  (sRet (eBin dAdd (eB bTup (aCons (eVar 2) aNil)) (eTup (aCons (eTup (aCons (eC (.str [115, 97, 121])) (aCons (eC (.bl true)) aNil))) (aCons (eTup (aCons (eC (.str [115, 97, 121])) (aCons (eC (.bl false)) aNil))) aNil)))))))))
def f__law_text : Fn := runF 4 (sRet (eB bTup (aCons (eComp [3] (gN 3) (iRng1X (aCons (eCall f__law_take (aCons (eVar 0) (aCons (eBin dAdd (eVar 2) (eC (.int 1))) aNil))) aNil)) tYesX (eBin dAdd (eC (.int 1)) (eCall f__law_take (aCons (eVar 0) (aCons (eVar 1) aNil))))) aNil)))
def f__law_same : Nat → Fn
  | 0 => runF 4 sBad
  | k + 1 => runF 4 (sSeq (sIf (tB (eIsi [.tList, .tTuple] (eVar 1)))
    (sSeq (sIf (tOr (tB (eBin dNe (eIsi [.tList] (eVar 0)) (eIsi [.tList] (eVar 1)))) (tB (eBin dNe (eIsi [.tTuple] (eVar 0)) (eIsi [.tTuple] (eVar 1)))))
      (sRet (eC (.bl false)))
      sNx)
    (sRet (eAnd (eBin dEq (eB bLen (aCons (eVar 0) aNil)) (eB bLen (aCons (eVar 1) aNil))) (eB bAll (aCons (eComp [2, 3] (gT 2 (gsCons (gN 2) (gsCons (gN 3) gsNil))) (iZipX false (aCons (eVar 0) (aCons (eVar 1) aNil))) tYesX (eCall (f__law_same k) (aCons (eVar 2) (aCons (eVar 3) aNil)))) aNil)))))
    sNx)
  (sSeq (sIf (tOr (tB (eBin dIs (eVar 1) (eC .non))) (tB (eIsi [.tBool, .tStr] (eVar 1))))
    (sRet (eAnd (eBin dEq (eVar 0) (eVar 1)) (eAnd (eBin dEq (eIsi [.tBool] (eVar 0)) (eIsi [.tBool] (eVar 1))) (eBin dEq (eBin dIs (eVar 0) (eC .non)) (eBin dIs (eVar 1) (eC .non))))))
    sNx)
  (sRet (eAnd (eIsi [.tInt] (eVar 0)) (eAnd (eNot (eIsi [.tBool] (eVar 0))) (eBin dEq (eVar 0) (eVar 1)))))))
def f__law_changes : Fn := runF 5 (sSeq (sSet 2 (eComp [3] (gN 3) (iRng2X (aCons (eC (.int 1)) (aCons (eBin dAdd (eVar 1) (eC (.int 1))) aNil))) tYesX (eTup (aCons (eC (.str [100, 114, 111, 112])) (aCons (eVar 3) aNil)))))
  (sSeq (sFor (gN 3) (iRng2X (aCons (eC (.int 1)) (aCons (eBin dAdd (eVar 1) (eC (.int 2))) aNil)))
    (sSet 2 (eBin dAdd (eVar 2) (eComp [4] (gN 4) (iRng2X (aCons (eC (.int 1)) (aCons (eBin dAdd (eVar 0) (eC (.int 1))) aNil))) tYesX (eTup (aCons (eC (.str [112, 117, 116])) (aCons (eVar 3) (aCons (eVar 4) aNil))))))))
  (sSeq (sFor (gN 3) (iRng2X (aCons (eC (.int 1)) (aCons (eBin dAdd (eVar 1) (eC (.int 1))) aNil)))
    (sSet 2 (eBin dAdd (eVar 2) (eComp [4] (gN 4) (iRng2X (aCons (eC (.int 1)) (aCons (eBin dAdd (eVar 0) (eC (.int 1))) aNil))) tYesX (eTup (aCons (eC (.str [116, 117, 114, 110])) (aCons (eVar 3) (aCons (eVar 4) aNil))))))))
  (sRet (eVar 2)))))
def f__law_behind_change : Fn := runF 3 (sSeq (sSet 2 (eBin dSub (eBin dIx (eVar 1) (eC (.int 1))) (eC (.int 1))))
  (sSeq (sIf (tB (eBin dEq (eBin dIx (eVar 1) (eC (.int 0))) (eC (.str [112, 117, 116]))))
    (sRet (eBin dAdd (eBin dAdd (eCut (eVar 0) pNo (pAt (eVar 2))) (eTup (aCons (eBin dIx (eVar 1) (eC (.int 2))) aNil))) (eCut (eVar 0) (pAt (eVar 2)) pNo)))
    sNx)
  (sRet (eBin dAdd (eBin dAdd (eCut (eVar 0) pNo (pAt (eVar 2))) (eIf (tB (eBin dEq (eBin dIx (eVar 1) (eC (.int 0))) (eC (.str [116, 117, 114, 110])))) (eTup (aCons (eBin dIx (eVar 1) (eC (.int 2))) aNil)) (eTup aNil))) (eCut (eVar 0) (pAt (eBin dAdd (eVar 2) (eC (.int 1)))) pNo)))))
def f_tuple_of : Nat → Fn
  | 0 => runF 2 sBad
  | k + 1 => runF 2 (sSeq (sIf (tB (eIsi [.tList, .tTuple] (eVar 0)))
    (sRet (eB bTup (aCons (eComp [1] (gN 1) (iSeqX false (eVar 0)) tYesX (eCall (f_tuple_of k) (aCons (eVar 1) aNil))) aNil)))
    sNx)
  (sRet (eVar 0)))
def f_is_number : Fn := runF 1 (sRet (eAnd (eIsi [.tInt] (eVar 0)) (eNot (eIsi [.tBool] (eVar 0)))))
def f_sure_place : Fn := runF 2 (sIf (tOr (tNot (tB (eCall f_is_number (aCons (eVar 1) aNil)))) (tNot (tB (eChain dLe dLe (eC (.int 0)) (eVar 1) (eBin dAdd (eB bLen (aCons (eVar 0) aNil)) (eC (.int 1)))))))
    sBad
    sNx)
def f_next_place : Fn := runF 4 (sSeq (sDrop (eCall f_sure_place (aCons (eVar 0) (aCons (eVar 1) aNil))))
  (sSeq (sFor (gN 3) (iRng2X (aCons (eBin dAdd (eVar 1) (eC (.int 1))) (aCons (eBin dAdd (eB bLen (aCons (eVar 0) aNil)) (eC (.int 1))) aNil)))
    (sIf (tB (eBin dIn (eBin dIx (eVar 0) (eBin dSub (eVar 3) (eC (.int 1)))) (eVar 2)))
      (sRet (eVar 3))
      sNx))
  (sRet (eBin dAdd (eB bLen (aCons (eVar 0) aNil)) (eC (.int 1))))))
def f_last_place : Fn := runF 4 (sSeq (sDrop (eCall f_sure_place (aCons (eVar 0) (aCons (eVar 1) aNil))))
  (sSeq (sFor (gN 3) (iRng3X (aCons (eBin dSub (eVar 1) (eC (.int 1))) (aCons (eC (.int 0)) (aCons (eNeg (eC (.int 1))) aNil))))
    (sIf (tB (eBin dIn (eBin dIx (eVar 0) (eBin dSub (eVar 3) (eC (.int 1)))) (eVar 2)))
      (sRet (eVar 3))
      sNx))
  (sRet (eC (.int 0)))))
def f_found : Fn := runF 4 (sRet (eIf (tB (eBin dEq (eVar 2) (eC (.str [110, 101, 120, 116])))) (eCall f_next_place (aCons (eVar 0) (aCons (eVar 1) (aCons (eVar 3) aNil)))) (eCall f_last_place (aCons (eVar 0) (aCons (eVar 1) (aCons (eVar 3) aNil))))))
def f_gone : Fn := runF 9 (sSeq (sPar [2, 3] (aCons (eCall (f_tuple_of 12) (aCons (eVar 0) aNil)) (aCons (eCall (f_tuple_of 12) (aCons (eVar 1) aNil)) aNil)))
  (sSeq (sParV 4 5 (eLst (aCons (eC (.int 0)) aNil)) (eLst (aCons (eC (.int 0)) (aCons (eBin dAdd (eB bLen (aCons (eVar 3) aNil)) (eC (.int 1))) aNil))))
  (sSeq (sWhile (tB (eBin dNe (eBin dIx (eBin dIx (eVar 2) (eBin dIx (eVar 4) (eNeg (eC (.int 1))))) (eC (.int 0))) (eC (.str [115, 97, 121]))))
    (sSeq (sSet 6 (eBin dIx (eVar 2) (eBin dIx (eVar 4) (eNeg (eC (.int 1))))))
    (sIf (tB (eBin dEq (eBin dIx (eVar 6) (eC (.int 0))) (eC (.str [97, 115, 107]))))
      (sSeq (sMut 5 fApp (aCons (eCall f_found (aCons (eVar 3) (aCons (eBin dIx (eVar 5) (eBin dIx (eVar 6) (eC (.int 1)))) (aCons (eBin dIx (eVar 6) (eC (.int 2))) (aCons (eBin dIx (eVar 6) (eC (.int 3))) aNil))))) aNil))
      (sMut 4 fApp (aCons (eBin dIx (eVar 6) (eC (.int 4))) aNil)))
      (sSeq (sPar [7, 8] (aCons (eBin dIx (eVar 5) (eBin dIx (eVar 6) (eC (.int 1)))) (aCons (eBin dIx (eVar 5) (eBin dIx (eVar 6) (eC (.int 2)))) aNil)))
      (sMut 4 fApp (aCons (eIf (tB (eBin dLt (eVar 7) (eVar 8))) (eBin dIx (eVar 6) (eC (.int 3))) (eIf (tB (eBin dEq (eVar 7) (eVar 8))) (eBin dIx (eVar 6) (eC (.int 4))) (eBin dIx (eVar 6) (eC (.int 5))))) aNil))))) 100000)
  (sRet (eTup (aCons (eB bTup (aCons (eVar 4) aNil)) (aCons (eB bTup (aCons (eVar 5) aNil)) aNil)))))))
def f_run : Fn := runF 4 (sSeq (sAsg (gT 2 (gsCons (gN 2) (gsCons (gN 3) gsNil))) (eCall f_gone (aCons (eVar 0) (aCons (eVar 1) aNil))))
  (sRet (eTup (aCons (eVar 3) (aCons (eBin dIx (eBin dIx (eVar 0) (eBin dIx (eVar 2) (eNeg (eC (.int 1))))) (eC (.int 1))) aNil)))))
def f_way_of : Fn := runF 2 (sRet (eBin dIx (eCall f_gone (aCons (eVar 0) (aCons (eVar 1) aNil))) (eC (.int 0))))
def f_gone_over : Fn := runF 11 (sSeq (sAsg (gT 2 (gsCons (gN 2) (gsCons (gT 2 (gsCons (gN 3) (gsCons (gN 4) gsNil))) gsNil))) (eTup (aCons (eCall (f_tuple_of 12) (aCons (eVar 0) aNil)) (aCons (eCall f_run (aCons (eVar 0) (aCons (eVar 1) aNil))) aNil))))
  (sSeq (sSet 5 (eComp [6] (gN 6) (iSeqX false (eCall f_way_of (aCons (eVar 0) (aCons (eVar 1) aNil)))) (tB (eBin dEq (eBin dIx (eBin dIx (eVar 2) (eVar 6)) (eC (.int 0))) (eC (.str [97, 115, 107])))) (eBin dIx (eVar 2) (eVar 6))))
  (sRet (eB bTup (aCons (eComp [7, 4, 8, 9, 10] (gT 2 (gsCons (gN 7) (gsCons (gT 5 (gsCons (gN 4) (gsCons (gN 8) (gsCons (gN 9) (gsCons (gN 10) (gsCons (gN 4) gsNil)))))) gsNil))) (iEnumX false (aCons (eVar 5) aNil)) tYesX (eTup (aCons (eVar 9) (aCons (eBin dIx (eVar 3) (eVar 8)) (aCons (eBin dIx (eVar 3) (eBin dAdd (eVar 7) (eC (.int 2)))) (aCons (eVar 10) aNil)))))) aNil)))))
def f__law_moved : Fn := runF 2 (sSeq (sIf (tB (eBin dEq (eBin dIx (eVar 0) (eC (.int 0))) (eC (.str [112, 117, 116]))))
    (sRet (eIf (tB (eBin dGe (eVar 1) (eBin dIx (eVar 0) (eC (.int 1))))) (eBin dAdd (eVar 1) (eC (.int 1))) (eVar 1)))
    sNx)
  (sSeq (sIf (tB (eBin dEq (eBin dIx (eVar 0) (eC (.int 0))) (eC (.str [100, 114, 111, 112]))))
    (sRet (eIf (tB (eBin dEq (eVar 1) (eBin dIx (eVar 0) (eC (.int 1))))) (eC .non) (eIf (tB (eBin dGt (eVar 1) (eBin dIx (eVar 0) (eC (.int 1))))) (eBin dSub (eVar 1) (eC (.int 1))) (eVar 1))))
    sNx)
  (sRet (eVar 1))))
def f__law_touched : Fn := runF 5 (sSeq (sPar [3, 4] (aCons (eCall f__law_moved (aCons (eVar 2) (aCons (eBin dIx (eVar 0) (eC (.int 2))) aNil))) (aCons (eCall f__law_moved (aCons (eVar 2) (aCons (eBin dIx (eVar 0) (eC (.int 3))) aNil))) aNil)))
  (sSeq (sIf (tB (eBin dIs (eVar 3) (eC .non)))
    (sSeq (sIf (tB (eBin dIs (eVar 4) (eC .non)))
      (sRet (eC (.bl true)))
      sNx)
    (sSet 3 (eIf (tB (eBin dEq (eBin dIx (eVar 0) (eC (.int 1))) (eC (.str [108, 97, 115, 116])))) (eBin dIx (eVar 2) (eC (.int 1))) (eBin dSub (eBin dIx (eVar 2) (eC (.int 1))) (eC (.int 1))))))
    sNx)
  (sRet (eBin dNe (eVar 4) (eCall f__law_found (aCons (eCall f__law_behind_change (aCons (eVar 1) (aCons (eVar 2) aNil))) (aCons (eVar 3) (aCons (eBin dIx (eVar 0) (eC (.int 1))) (aCons (eBin dIx (eVar 0) (eC (.int 4))) aNil)))))))))
def f_changes_of : Fn := runF 7 (sSeq (sAsg (gT 2 (gsCons (gN 2) (gsCons (gN 3) gsNil))) (eTup (aCons (eB bLen (aCons (eVar 1) aNil)) (aCons (eLRg2 (eC (.int 1)) (eBin dAdd (eVar 0) (eC (.int 1)))) aNil))))
  (sSeq (sOwn 4 (eComp [5] (gN 5) (iRng2X (aCons (eC (.int 1)) (aCons (eBin dAdd (eVar 2) (eC (.int 1))) aNil))) tYesX (eTup (aCons (eC (.str [100, 114, 111, 112])) (aCons (eVar 5) aNil)))))
  (sSeq (sMut 4 fExt (aCons (eComp2 [5, 6] [6] (gN 5) (iRng2X (aCons (eC (.int 1)) (aCons (eBin dAdd (eVar 2) (eC (.int 2))) aNil))) tYesX (gN 6) (iSeqX true (eVar 3)) tYesX (eTup (aCons (eC (.str [112, 117, 116])) (aCons (eVar 5) (aCons (eVar 6) aNil))))) aNil))
  (sSeq (sMut 4 fExt (aCons (eComp2 [5, 6] [6] (gN 5) (iRng2X (aCons (eC (.int 1)) (aCons (eBin dAdd (eVar 2) (eC (.int 1))) aNil))) tYesX (gN 6) (iSeqX true (eVar 3)) tYesX (eTup (aCons (eC (.str [116, 117, 114, 110])) (aCons (eVar 5) (aCons (eVar 6) aNil))))) aNil))
  (sRet (eB bTup (aCons (eVar 4) aNil)))))))
def f_is_touched : Fn := runF 11 (sSeq (sAsg (gT 2 (gsCons (gT 4 (gsCons (gN 2) (gsCons (gN 3) (gsCons (gN 4) (gsCons (gN 5) gsNil))))) (gsCons (gTS 2 (gsCons (gN 6) (gsCons (gN 7) (gsCons (gN 8) gsNil)))) gsNil))) (eTup (aCons (eVar 0) (aCons (eVar 1) aNil))))
  (sSeq (sPar [9, 10] (aCons (eB bMin (aCons (eVar 3) (aCons (eVar 4) aNil))) (aCons (eB bMax (aCons (eVar 3) (aCons (eVar 4) aNil))) aNil)))
  (sSeq (sIf (tB (eBin dEq (eVar 6) (eC (.str [112, 117, 116]))))
    (sRet (eAnd (eChain dLt dLe (eVar 9) (eVar 7) (eVar 10)) (eBin dIn (eBin dIx (eVar 8) (eC (.int 0))) (eVar 5))))
    sNx)
  (sSeq (sIf (tB (eBin dEq (eVar 7) (eVar 4)))
    (sRet (eOr (eBin dEq (eVar 6) (eC (.str [100, 114, 111, 112]))) (eBin dNotIn (eBin dIx (eVar 8) (eC (.int 0))) (eVar 5))))
    sNx)
  (sRet (eAnd (eBin dEq (eVar 6) (eC (.str [116, 117, 114, 110]))) (eAnd (eChain dLt dLt (eVar 9) (eVar 7) (eVar 10)) (eBin dIn (eBin dIx (eVar 8) (eC (.int 0))) (eVar 5)))))))))
def f_can_turn : Fn := runF 6 (sSeq (sSet 3 (eCall f_gone_over (aCons (eVar 1) (aCons (eVar 2) aNil))))
  (sRet (eB bTup (aCons (eComp [4] (gN 4) (iSeqX false (eCall f_changes_of (aCons (eVar 0) (aCons (eVar 2) aNil)))) (tB (eB bAny (aCons (eComp [5] (gN 5) (iSeqX false (eVar 3)) tYesX (eCall f_is_touched (aCons (eVar 5) (aCons (eVar 4) aNil)))) aNil))) (eVar 4)) aNil))))
def f_answer : Fn := runF 2 (sRet (eBin dIx (eCall f_run (aCons (eVar 0) (aCons (eVar 1) aNil))) (eC (.int 1))))
def f_changed : Fn := runF 7 (sSeq (sAsg (gT 2 (gsCons (gN 2) (gsCons (gTS 2 (gsCons (gN 3) (gsCons (gN 4) (gsCons (gN 5) gsNil)))) gsNil))) (eTup (aCons (eCall (f_tuple_of 12) (aCons (eVar 0) aNil)) (aCons (eCall (f_tuple_of 12) (aCons (eVar 1) aNil)) aNil))))
  (sSeq (sSet 6 (eIf (tB (eBin dEq (eVar 3) (eC (.str [112, 117, 116])))) (eBin dAdd (eB bLen (aCons (eVar 2) aNil)) (eC (.int 1))) (eB bLen (aCons (eVar 2) aNil))))
  (sSeq (sIf (tNot (tB (eChain dLe dLe (eC (.int 1)) (eVar 4) (eVar 6))))
    sBad
    sNx)
  (sRet (eBin dAdd (eBin dAdd (eCut (eVar 2) pNo (pAt (eBin dSub (eVar 4) (eC (.int 1))))) (eB bTup (aCons (eVar 5) aNil))) (eIf (tB (eBin dEq (eVar 3) (eC (.str [112, 117, 116])))) (eCut (eVar 2) (pAt (eBin dSub (eVar 4) (eC (.int 1)))) pNo) (eCut (eVar 2) (pAt (eVar 4)) pNo)))))))
def f_turning : Fn := runF 5 (sSeq (sSet 3 (eCall f_answer (aCons (eVar 1) (aCons (eVar 2) aNil))))
  (sRet (eB bTup (aCons (eComp [4] (gN 4) (iSeqX false (eCall f_changes_of (aCons (eVar 0) (aCons (eVar 2) aNil)))) (tB (eBin dNe (eCall f_answer (aCons (eVar 1) (aCons (eCall f_changed (aCons (eVar 2) (aCons (eVar 4) aNil))) aNil))) (eVar 3))) (eVar 4)) aNil))))
def f_place_behind : Fn := runF 5 (sSeq (sDrop (eCall f_sure_place (aCons (eVar 0) (aCons (eVar 2) aNil))))
  (sSeq (sDrop (eCall f_changed (aCons (eVar 0) (aCons (eVar 1) aNil))))
  (sSeq (sAsg (gT 2 (gsCons (gN 3) (gsCons (gN 4) gsNil))) (eCut (eVar 1) pNo (pAt (eC (.int 2)))))
  (sSeq (sIf (tB (eBin dEq (eVar 3) (eC (.str [112, 117, 116]))))
    (sRet (eBin dAdd (eVar 2) (eB bInt (aCons (eBin dGe (eVar 2) (eVar 4)) aNil))))
    sNx)
  (sSeq (sIf (tB (eBin dEq (eVar 3) (eC (.str [100, 114, 111, 112]))))
    (sRet (eIf (tB (eBin dEq (eVar 2) (eVar 4))) (eC .non) (eBin dSub (eVar 2) (eB bInt (aCons (eBin dGt (eVar 2) (eVar 4)) aNil)))))
    sNx)
  (sRet (eVar 2)))))))
def f__law_lists : Nat → Fn
  | 0 => runF 2 sBad
  | k + 1 => runF 2 (sRet (eIf (tB (eIsi [.tList, .tTuple] (eVar 0))) (eComp [1] (gN 1) (iSeqX false (eVar 0)) tYesX (eCall (f__law_lists k) (aCons (eVar 1) aNil))) (eVar 0)))
def f_touched_by : Fn := runF 6 (sSeq (sDrop (eCall f_changed (aCons (eVar 1) (aCons (eVar 2) aNil))))
  (sSeq (sSet 3 (eCall (f_tuple_of 12) (aCons (eVar 2) aNil)))
  (sRet (eB bTup (aCons (eComp [4, 5] (gT 2 (gsCons (gN 4) (gsCons (gN 5) gsNil))) (iEnumX false (aCons (eCall f_gone_over (aCons (eVar 0) (aCons (eVar 1) aNil))) aNil)) (tB (eCall f_is_touched (aCons (eVar 5) (aCons (eVar 3) aNil)))) (eVar 4)) aNil)))))
def f_asked_again : Fn := runF 10 (sSeq (sParN [3, 4, 5] [(eCall f_touched_by (aCons (eVar 0) (aCons (eVar 1) (aCons (eVar 2) aNil)))), (eCall (f_tuple_of 12) (aCons (eVar 0) aNil)), (eLst aNil)])
  (sSeq (sSet 6 (eComp [9] (gN 9) (iSeqX false (eCall f_way_of (aCons (eVar 0) (aCons (eVar 1) aNil)))) (tB (eBin dEq (eBin dIx (eBin dIx (eVar 4) (eVar 9)) (eC (.int 0))) (eC (.str [97, 115, 107])))) (eBin dIx (eVar 4) (eVar 9))))
  (sSeq (sFor (gT 2 (gsCons (gN 7) (gsCons (gN 8) gsNil))) (iEnumX true (aCons (eVar 6) aNil))
    (sIf (tOr (tB (eBin dIn (eVar 7) (eVar 3))) (tB (eBin dIn (eBin dSub (eBin dIx (eVar 8) (eC (.int 1))) (eC (.int 2))) (eVar 5))))
      (sMut 5 fApp (aCons (eVar 7) aNil))
      sNx))
  (sRet (eB bTup (aCons (eVar 5) aNil))))))
def f__law_right : Fn := runF 20 (sSeq (sSet 1 (eBin dAdd (eC (.int 2)) (eCall f__law_take (aCons (eVar 0) (aCons (eC (.int 2)) aNil)))))
  (sSeq (sAsg (gT 2 (gsCons (gN 2) (gsCons (gN 3) gsNil))) (eTup (aCons (eCall f__law_tree (aCons (eVar 0) (aCons (eVar 1) aNil))) (aCons (eCall f__law_text (aCons (eVar 0) (aCons (eVar 1) (aCons (eC (.int 5)) aNil)))) aNil))))
  (sSeq (sAsg (gT 3 (gsCons (gN 4) (gsCons (gN 5) (gsCons (gN 6) gsNil)))) (eCall f__law_run (aCons (eVar 2) (aCons (eVar 3) aNil))))
  (sSeq (sIf (tNot (tB (eCall (f__law_same 12) (aCons (eLst (aCons (eCall f_gone_over (aCons (eVar 2) (aCons (eVar 3) aNil))) (aCons (eCall f_gone_over (aCons (eCall (f__law_lists 12) (aCons (eVar 2) aNil)) (aCons (eB bLst (aCons (eVar 3) aNil)) aNil))) aNil))) (aCons (eBin dMul (eLst (aCons (eB bTup (aCons (eComp [17] (gN 17) (iSeqX false (eVar 4)) tYesX (eCut (eVar 17) (pAt (eC (.int 1))) pNo)) aNil)) aNil)) (eC (.int 2))) aNil)))))
    (sRet (eC (.bl false)))
    sNx)
  (sSeq (sAsg (gT 3 (gsCons (gN 7) (gsCons (gN 8) (gsCons (gN 9) gsNil)))) (eTup (aCons (eCall f__law_changes (aCons (eVar 1) (aCons (eB bLen (aCons (eVar 3) aNil)) aNil))) (aCons (eLst aNil) (aCons (eLst aNil) aNil)))))
  (sSeq (sFor (gN 10) (iSeqX true (eVar 7))
    (sSeq (sAsg (gT 3 (gsCons (gN 11) (gsCons (gN 12) (gsCons (gN 13) gsNil)))) (eCall f__law_run (aCons (eVar 2) (aCons (eCall f__law_behind_change (aCons (eVar 3) (aCons (eVar 10) aNil))) aNil))))
    (sSeq (sSet 14 (eComp [16, 17] (gT 2 (gsCons (gN 16) (gsCons (gN 17) gsNil))) (iEnumX false (aCons (eVar 4) aNil)) (tB (eCall f__law_touched (aCons (eVar 17) (aCons (eVar 3) (aCons (eVar 10) aNil))))) (eVar 16)))
    (sSeq (sSet 8 (eBin dAdd (eVar 8) (eIf (tB (eBin dNe (eVar 14) (eLst aNil))) (eLst (aCons (eVar 10) aNil)) (eLst aNil))))
    (sSeq (sSet 9 (eBin dAdd (eVar 9) (eIf (tB (eBin dNe (eVar 12) (eVar 5))) (eLst (aCons (eVar 10) aNil)) (eLst aNil))))
    (sIf (tAnd (tB (eBin dEq (eVar 14) (eLst aNil))) (tB (eBin dNe (eVar 13) (eVar 6))))
      (sRet (eC (.bl false)))
      sNx))))))
  (sSeq (sIf (tNot (tB (eCall (f__law_same 12) (aCons (eLst (aCons (eCall f_can_turn (aCons (eVar 1) (aCons (eVar 2) (aCons (eVar 3) aNil)))) (aCons (eCall f_turning (aCons (eVar 1) (aCons (eVar 2) (aCons (eVar 3) aNil)))) (aCons (eCall f_turning (aCons (eVar 1) (aCons (eCall (f__law_lists 12) (aCons (eVar 2) aNil)) (aCons (eB bLst (aCons (eVar 3) aNil)) aNil)))) aNil)))) (aCons (eLst (aCons (eB bTup (aCons (eVar 8) aNil)) (aCons (eB bTup (aCons (eVar 9) aNil)) (aCons (eB bTup (aCons (eVar 9) aNil)) aNil)))) aNil)))))
    (sRet (eC (.bl false)))
    sNx)
  (sSeq (sIf (tB (eBin dNe (eComp [17] (gN 17) (iSeqX false (eVar 9)) (tB (eBin dNotIn (eVar 17) (eVar 8))) (eVar 17)) (eLst aNil)))
    (sRet (eC (.bl false)))
    sNx)
  (sSeq (sFor (gN 10) (iSeqX true (eCall f__law_pick (aCons (eVar 0) (aCons (eVar 7) (aCons (eC (.int 4)) aNil)))))
    (sSeq (sParV 14 15 (eComp [16, 17] (gT 2 (gsCons (gN 16) (gsCons (gN 17) gsNil))) (iEnumX false (aCons (eVar 4) aNil)) (tB (eCall f__law_touched (aCons (eVar 17) (aCons (eVar 3) (aCons (eVar 10) aNil))))) (eVar 16)) (eLst aNil))
    (sSeq (sFor (gT 2 (gsCons (gN 16) (gsCons (gN 17) gsNil))) (iEnumX true (aCons (eVar 4) aNil))
      (sIf (tOr (tB (eBin dIn (eVar 16) (eVar 14))) (tB (eBin dIn (eBin dSub (eBin dIx (eVar 17) (eC (.int 0))) (eC (.int 2))) (eVar 15))))
        (sMut 15 fApp (aCons (eVar 16) aNil))
        sNx))
    (sSeq (sIf (tNot (tB (eCall (f__law_same 12) (aCons (eLst (aCons (eCall f_touched_by (aCons (eVar 2) (aCons (eVar 3) (aCons (eVar 10) aNil)))) (aCons (eCall f_asked_again (aCons (eCall (f__law_lists 12) (aCons (eVar 2) aNil)) (aCons (eB bLst (aCons (eVar 3) aNil)) (aCons (eB bLst (aCons (eVar 10) aNil)) aNil)))) aNil))) (aCons (eLst (aCons (eB bTup (aCons (eVar 14) aNil)) (aCons (eB bTup (aCons (eVar 15) aNil)) aNil))) aNil)))))
      (sRet (eC (.bl false)))
      sNx)
    (sSeq (sSet 11 (eBin dIx (eCall f__law_run (aCons (eVar 2) (aCons (eCall f__law_behind_change (aCons (eVar 3) (aCons (eVar 10) aNil))) aNil))) (eC (.int 0))))
    (sSeq (sFor (gN 16) (iRng1X (aCons (eB bMin (aCons (eB bLen (aCons (eVar 4) aNil)) (aCons (eB bLen (aCons (eVar 11) aNil)) aNil))) aNil))
      (sSeq (sIf (tB (eBin dNe (eTup (aCons (eBin dIx (eBin dIx (eVar 11) (eVar 16)) (eC (.int 0))) (aCons (eBin dIx (eBin dIx (eVar 11) (eVar 16)) (eC (.int 1))) (aCons (eBin dIx (eBin dIx (eVar 11) (eVar 16)) (eC (.int 4))) aNil)))) (eTup (aCons (eBin dIx (eBin dIx (eVar 4) (eVar 16)) (eC (.int 0))) (aCons (eBin dIx (eBin dIx (eVar 4) (eVar 16)) (eC (.int 1))) (aCons (eBin dIx (eBin dIx (eVar 4) (eVar 16)) (eC (.int 4))) aNil))))))
        sBk
        sNx)
      (sSeq (sSet 18 (eBin dEq (eBin dIx (eBin dIx (eVar 11) (eVar 16)) (eC (.int 3))) (eCall f__law_moved (aCons (eVar 10) (aCons (eBin dIx (eBin dIx (eVar 4) (eVar 16)) (eC (.int 3))) aNil)))))
      (sIf (tOr (tAnd (tB (eBin dNotIn (eVar 16) (eVar 15))) (tNot (tB (eVar 18)))) (tAnd (tB (eBin dEq (eCut (eVar 14) pNo (pAt (eC (.int 1)))) (eLst (aCons (eVar 16) aNil)))) (tB (eVar 18))))
        (sRet (eC (.bl false)))
        sNx))))
    (sSeq (sSet 19 (eCall f__law_take (aCons (eVar 0) (aCons (eBin dAdd (eB bLen (aCons (eVar 3) aNil)) (eC (.int 2))) aNil))))
    (sIf (tNot (tB (eCall (f__law_same 12) (aCons (eCall f_place_behind (aCons (eVar 3) (aCons (eVar 10) (aCons (eVar 19) aNil)))) (aCons (eCall f__law_moved (aCons (eVar 10) (aCons (eVar 19) aNil))) aNil)))))
      (sRet (eC (.bl false)))
      sNx))))))))
  (sRet (eC (.bl true))))))))))))
def f__law_front_right : Fn := runF 4 (sSeq (sAsg (gT 2 (gsCons (gN 0) (gsCons (gN 1) gsNil))) (eTup (aCons (eTup (aCons (eTup (aCons (eC (.str [97, 115, 107])) (aCons (eC (.int 0)) (aCons (eC (.str [110, 101, 120, 116])) (aCons (eTup (aCons (eC (.int 2)) aNil)) (aCons (eC (.int 1)) aNil)))))) (aCons (eTup (aCons (eC (.str [97, 115, 107])) (aCons (eC (.int 2)) (aCons (eC (.str [108, 97, 115, 116])) (aCons (eTup (aCons (eC (.int 1)) aNil)) (aCons (eC (.int 2)) aNil)))))) (aCons (eTup (aCons (eC (.str [111, 114, 100, 101, 114])) (aCons (eC (.int 3)) (aCons (eC (.int 0)) (aCons (eC (.int 3)) (aCons (eC (.int 3)) (aCons (eC (.int 4)) aNil))))))) (aCons (eTup (aCons (eC (.str [115, 97, 121])) (aCons (eC (.bl false)) aNil))) (aCons (eTup (aCons (eC (.str [115, 97, 121])) (aCons (eC (.bl true)) aNil))) aNil)))))) (aCons (eTup (aCons (eC (.int 1)) (aCons (eC (.int 2)) (aCons (eC (.int 1)) aNil)))) aNil))))
  (sSeq (sSet 2 (eLst (aCons (eCall f_gone_over (aCons (eVar 0) (aCons (eVar 1) aNil))) (aCons (eComp [3] (gN 3) (iSeqX false (eTup (aCons (eTup (aCons (eC (.str [112, 117, 116])) (aCons (eC (.int 2)) (aCons (eC (.int 1)) aNil)))) (aCons (eTup (aCons (eC (.str [100, 114, 111, 112])) (aCons (eC (.int 2)) aNil))) (aCons (eTup (aCons (eC (.str [116, 117, 114, 110])) (aCons (eC (.int 1)) (aCons (eC (.int 2)) aNil)))) (aCons (eTup (aCons (eC (.str [112, 117, 116])) (aCons (eC (.int 3)) (aCons (eC (.int 2)) aNil)))) (aCons (eTup (aCons (eC (.str [116, 117, 114, 110])) (aCons (eC (.int 1)) (aCons (eC (.int 1)) aNil)))) aNil))))))) tYesX (eCall f_touched_by (aCons (eVar 0) (aCons (eVar 1) (aCons (eVar 3) aNil))))) (aCons (eCall f_asked_again (aCons (eVar 0) (aCons (eVar 1) (aCons (eTup (aCons (eC (.str [112, 117, 116])) (aCons (eC (.int 1)) (aCons (eC (.int 2)) aNil)))) aNil)))) (aCons (eB bLen (aCons (eCall f_can_turn (aCons (eC (.int 2)) (aCons (eVar 0) (aCons (eVar 1) aNil)))) aNil)) (aCons (eCall f_turning (aCons (eC (.int 2)) (aCons (eVar 0) (aCons (eVar 1) aNil)))) (aCons (eCall f_place_behind (aCons (eVar 1) (aCons (eTup (aCons (eC (.str [100, 114, 111, 112])) (aCons (eC (.int 2)) aNil))) (aCons (eC (.int 3)) aNil)))) aNil))))))))
  (sRet (eCall (f__law_same 12) (aCons (eVar 2) (aCons (eLst (aCons (eTup (aCons (eTup (aCons (eC (.str [110, 101, 120, 116])) (aCons (eC (.int 0)) (aCons (eC (.int 2)) (aCons (eTup (aCons (eC (.int 2)) aNil)) aNil))))) (aCons (eTup (aCons (eC (.str [108, 97, 115, 116])) (aCons (eC (.int 2)) (aCons (eC (.int 1)) (aCons (eTup (aCons (eC (.int 1)) aNil)) aNil))))) aNil))) (aCons (eLst (aCons (eTup (aCons (eC (.int 1)) aNil)) (aCons (eTup (aCons (eC (.int 0)) aNil)) (aCons (eTup (aCons (eC (.int 0)) (aCons (eC (.int 1)) aNil))) (aCons (eTup aNil) (aCons (eTup aNil) aNil)))))) (aCons (eTup (aCons (eC (.int 0)) (aCons (eC (.int 1)) aNil))) (aCons (eC (.int 7)) (aCons (eTup (aCons (eTup (aCons (eC (.str [100, 114, 111, 112])) (aCons (eC (.int 1)) aNil))) (aCons (eTup (aCons (eC (.str [112, 117, 116])) (aCons (eC (.int 1)) (aCons (eC (.int 2)) aNil)))) (aCons (eTup (aCons (eC (.str [116, 117, 114, 110])) (aCons (eC (.int 1)) (aCons (eC (.int 2)) aNil)))) aNil)))) (aCons (eC (.int 2)) aNil))))))) aNil))))))
def f__law_box : Fn := runF 3 (sSeq (sSet 2 (eIf (tB (eBin dLt (eVar 1) (eB bLen (aCons (eVar 0) aNil)))) (eBin dIx (eVar 0) (eVar 1)) (eC (.int 0))))
  (sRet (eLst (aCons (eBin dMul (eB bAbs (aCons (eVar 2) aNil)) (eB bInt (aCons (eBin dGe (eB bAbs (aCons (eVar 2) aNil)) (eBin dPow (eC (.int 10)) (eC (.int 18)))) aNil))) (aCons (eBin dAdd (eBin dAdd (eBin dMod (eB bInt (aCons (eVar 2) aNil)) (eC (.int 2305843009213693951))) (eBin dMul (eC (.int 39373)) (eVar 1))) (eC (.int 1318542))) (aCons (eC (.int 0)) aNil))))))
def f__law_cells : Fn := runF 6 (sSeq (sVar 2 (eOrT (eB bLst (aCons (eCut (eVar 0) pNo (pAt (eVar 1))) aNil)) (eLst (aCons (eC (.int 0)) aNil))))
  (sSeq (sFor (gT 2 (gsCons (gN 3) (gsCons (gN 4) gsNil))) (iEnumX true (aCons (eCut (eVar 0) (pAt (eVar 1)) (pAt (eC (.int 63)))) aNil))
    (sSeq (sSet 5 (eBin dMod (eB bInt (aCons (eVar 3) aNil)) (eVar 1)))
    (sPut 2 (eVar 5) (eBin dAdd (eBin dIx (eVar 2) (eVar 5)) (eBin dMul (eVar 4) (eBin dAdd (eVar 3) (eC (.int 2))))))))
  (sFz 2 (sRet (eVar 2)))))
def f_law : Fn := runF 1 (sSeq (sIf (tNot (tB (fun _ ph => f__law_front_right [] ph)))
    (sRet (eC (.bl false)))
    sNx)
  (sRet (eCallC f__law_right (eCall f__law_box (aCons (eCall f__law_cells (aCons (eVar 0) (aCons (eC (.int 1)) aNil))) (aCons (eC (.int 0)) aNil))))))
end Pyp

namespace Pyp
open PySem L2
def okT : Res Val → Bool
  | .ok (.d (.bl true)) _ => true
  | _ => false
theorem byhand : okT (f__law_front_right [] []) = true := by decide +kernel
theorem okT_ok {r : Res Val} (h : okT r = true) : ∃ ph, r = .ok (.d (.bl true)) ph := by
  unfold okT at h
  split at h
  · exact ⟨_, rfl⟩
  · cases h
/-- the box: what is drawn from -/
structure Urn (L : Int) (d : D) : Prop where
  ex : ∃ a b c : Int, d = .lst [.int a, .int b, .int c] ∧ 0 ≤ a ∧ 0 ≤ b ∧ b < 4611686018427387904 ∧ 0 ≤ c ∧ c ≤ L
def onceR (b c : Int) : Int := (b + 48271 * c) * (39373 + c) % 2147483647
def twiceR (b c : Int) : Int := (onceR b c + c + b / 1000003) * (onceR b c % 40009 + 7) % 2147483629
def takeR (b c lo : Int) : Int := (twiceR b c * 48271 + onceR b c) % 2147483587 / 64 % lo
theorem take_ok {L lo : Int} {n : Nat} {ph : PH} {d : D} (hd : ph[n]? = some d) (hu : Urn L d) (hL : L ≤ 1000000) (h0 : 0 < lo) (h1 : lo ≤ 1000) :
    ∃ r d', f__law_take [.ref n, .d (.int lo)] ph = .ok (.d (.int r)) (ph.set n d') ∧ 0 ≤ r ∧ r < lo ∧ Urn (L + 1) d' := by
  obtain ⟨a, b, c, rfl, ha, hb, hb2, hc, hcL⟩ := hu.ex
  have hn : n < ph.length := (List.getElem?_eq_some_iff.mp hd).1
  by_cases h : a > 0
  · refine ⟨a % lo, .lst [.int (a / lo), .int b, .int c], ?_, Int.emod_nonneg _ (by omega), Int.emod_lt_of_pos _ h0, ⟨_, _, _, rfl, Int.ediv_nonneg ha (by omega), hb, hb2, hc, by omega⟩⟩
    simp [f__law_take, hd, h, h0, div_ok h0 (show lo < 1073741824 by omega), ixN]
  · have e1 : 0 ≤ onceR b (c + 1) ∧ onceR b (c + 1) < 2147483647 := ⟨Int.emod_nonneg _ (by decide), Int.emod_lt_of_pos _ (by decide)⟩
    have m1 : mulOk 48271 (c + 1) = true := mul_l (by decide) (by decide)
    have m2 : mulOk (b + 48271 * (c + 1)) (39373 + (c + 1)) = true := mul_r (by omega) (by omega)
    have m3 : mulOk (onceR b (c + 1) + (c + 1) + b / 1000003) (onceR b (c + 1) % 40009 + 7) = true := mul_r (by omega) (by omega)
    have m4 : mulOk (twiceR b (c + 1)) 48271 = true := mul_r (by decide) (by decide)
    have hset : ∀ x : D, (ph.set n x)[n]? = some x := fun x => List.getElem?_set_self hn
    have f2 : (onceR b (c + 1) + (c + 1) + b / 1000003) * (onceR b (c + 1) % 40009 + 7) % 2147483629 = twiceR b (c + 1) := rfl
    have f1 : (b + 48271 * (c + 1)) * (39373 + (c + 1)) % 2147483647 = onceR b (c + 1) := rfl
    refine ⟨takeR b (c + 1) lo, .lst [.int a, .int b, .int (c + 1)], ?_, Int.emod_nonneg _ (by omega), Int.emod_lt_of_pos _ h0, ⟨_, _, _, rfl, ha, hb, hb2, by omega, by omega⟩⟩
    simp [f__law_take, hd, hset, h, h0, ixN, div_ok (j := 1000003) (by decide) (by decide), div_ok (j := 64) (by decide) (by decide), m1, m2, f1, m3, f2, m4, takeR]
end Pyp

namespace Pyp
open PySem L2
/-! ints as data -/
abbrev ID (ns : List Int) : List D := ns.map D.int
@[simp] theorem intsD_map (ns : List Int) : intsD (ID ns) = some ns := by
  induction ns with
  | nil => rfl
  | cons n ns ih =>
    show (intsD (ID ns)).map (n :: ·) = _
    rw [ih]; rfl
theorem oksB_ints : ∀ ns : List Int, oksB (ID ns) = true
  | [] => rfl
  | n :: ns => by
    show (D.okB (.int n) && oksB (ID ns)) = true
    rw [oksB_ints ns]; rfl
theorem deps_ints : ∀ ns : List Int, deps (ID ns) = 0
  | [] => rfl
  | n :: ns => by
    show max (D.dep (.int n)) (deps (ID ns)) = 0
    rw [deps_ints ns]; rfl
@[simp] theorem shp_tup (ns : List Int) : shp (.tup (ID ns)) = true := by
  unfold shp D.okB D.dep
  rw [oksB_ints, deps_ints]; rfl
@[simp] theorem shp_lst (ns : List Int) : shp (.lst (ID ns)) = true := by
  unfold shp D.okB D.dep
  rw [oksB_ints, deps_ints]; rfl
@[simp] theorem shp_int (n : Int) : shp (.int n) = true := rfl
def inL (ls : List Int) (x : Int) : Bool := ls.any fun z => z == x
theorem any_ints (x : Int) : ∀ ls : List Int, ((ID ls).any fun z => deq z (.int x)) = inL ls x
  | [] => rfl
  | l :: ls => by
    show (deq (.int l) (.int x) || (ID ls).any fun z => deq z (.int x)) = _
    rw [any_ints x ls]; rfl
@[simp] theorem dIn_tup (x : Int) (ls : List Int) : dIn (.int x) (.tup (ID ls)) = some (.d (.bl (inL ls x))) := by
  unfold dIn inB
  rw [if_pos ⟨shp_int x, shp_tup ls⟩]
  show some (Val.d (.bl ((ID ls).any fun z => deq z (.int x)))) = _
  rw [any_ints]
@[simp] theorem dIn_lst (x : Int) (ls : List Int) : dIn (.int x) (.lst (ID ls)) = some (.d (.bl (inL ls x))) := by
  unfold dIn inB
  rw [if_pos ⟨shp_int x, shp_lst ls⟩]
  show some (Val.d (.bl ((ID ls).any fun z => deq z (.int x)))) = _
  rw [any_ints]
@[simp] theorem dNotIn_tup (x : Int) (ls : List Int) : dNotIn (.int x) (.tup (ID ls)) = some (.d (.bl (!inL ls x))) := by
  unfold dNotIn inB
  rw [if_pos ⟨shp_int x, shp_tup ls⟩]
  show some (Val.d (.bl (!(ID ls).any fun z => deq z (.int x)))) = _
  rw [any_ints]
/-! the same, looked at by the law's own eyes -/
def okS : Nat → D → Prop
  | 0, _ => False
  | k + 1, d => match d with
    | .int _ => True
    | .bl _ => True
    | .str x => (x.all fun c => decide (c < 0x110000)) = true
    | .tup ds => ds.length ≤ 1000 ∧ ∀ e ∈ ds, okS k e
    | .lst ds => ds.length ≤ 1000 ∧ ∀ e ∈ ds, okS k e
    | _ => False
theorem all_true : ∀ n : Nat, bls (List.replicate n (.bl true)) = some (List.replicate n true)
  | 0 => rfl
  | n + 1 => by
    show (bls (List.replicate n (.bl true))).map (true :: ·) = _
    rw [all_true n]; rfl
theorem same_comp {k : Nat} (ih : ∀ d, okS k d → ∀ ph, f__law_same k [.d d, .d d] ph = .ok (.d (.bl true)) ph) (a b : Option Val) : ∀ (ds : List D) (acc : List D) (ph : PH), (∀ e ∈ ds, okS k e) → acc.length + ds.length ≤ 1000 →
    compL (gT 2 (gsCons (gN 2) (gsCons (gN 3) gsNil))) tYesX (eCall (f__law_same k) (aCons (eVar 2) (aCons (eVar 3) aNil))) [a, b, none, none] (zipD ds ds) acc ph = .ok (acc ++ List.replicate ds.length (.bl true)) ph
  | [], acc, ph, _, _ => by simp [zipD]
  | d :: ds, acc, ph, h, hl => by
    have hacc : acc.length < lim := by simp at hl; unfold lim; omega
    rw [zipD, compL_cons]
    simp [ih d (h d List.mem_cons_self), hacc]
    rw [same_comp ih a b ds (acc ++ [D.bl true]) ph (fun e he => h e (List.mem_cons_of_mem _ he)) (by simp at hl ⊢; omega)]
    simp [List.replicate_succ]
theorem same_ok : ∀ (k : Nat) (d : D), okS k d → ∀ ph, f__law_same k [.d d, .d d] ph = .ok (.d (.bl true)) ph
  | 0, d, h, ph => h.elim
  | k + 1, d, h, ph => by
    have ih := same_ok k
    cases d with
    | int i => simp [f__law_same, isTy, dIs, isNonB]
    | bl b => simp [f__law_same, isTy, dIs, isNonB]
    | str x =>
      have hx : (x.all fun c => decide (c < 0x110000)) = true := h
      have hs : shp (.str x) = true := by unfold shp D.okB D.dep; rw [hx]; rfl
      have he : deq (.str x) (.str x) = true := by unfold deq; simp
      have hq : dEq (.str x) (.str x) = some (.d (.bl true)) := by simp [dEq, hs, he]
      simp [f__law_same, isTy, dIs, isNonB, hq]
    | tup ds =>
      obtain ⟨h1, h2⟩ : ds.length ≤ 1000 ∧ ∀ e ∈ ds, okS k e := h
      simp [f__law_same, isTy, same_comp ih _ _ ds [] ph h2 (by simpa using h1), all_true]
    | lst ds =>
      obtain ⟨h1, h2⟩ : ds.length ≤ 1000 ∧ ∀ e ∈ ds, okS k e := h
      simp [f__law_same, isTy, same_comp ih _ _ ds [] ph h2 (by simpa using h1), all_true]
    | non => exact h.elim
    | dic _ _ => exact h.elim
    | fz _ => exact h.elim
end Pyp

namespace Pyp
open PySem L2
theorem atI_in {α : Type} {xs : List α} {i : Int} {j : Nat} {v : α} (hi : i = j) (h : xs[j]? = some v) : atI xs i = some v := by
  have hj := (List.getElem?_eq_some_iff.mp h).1
  subst hi
  unfold atI ixN
  rw [if_pos (by omega), if_pos (by omega)]
  simpa using h
theorem atI_last {α : Type} {xs : List α} {v : α} : atI (xs ++ [v]) (-1) = some v := by
  unfold atI ixN
  rw [if_neg (by decide), if_pos (by simp; omega)]
  have e : (-1 + ((xs ++ [v]).length : Int)).toNat = xs.length := by rw [List.length_append, List.length_singleton]; omega
  rw [e]
  simp
/-! the nearest behind p -/
def nx (ls : List Int) : List Int → Int → Int → Int
  | [], i, _ => i
  | t :: ts, i, p => if p < i ∧ inL ls t = true then i else nx ls ts (i + 1) p
theorem nx_ge (ls : List Int) : ∀ (ts : List Int) (i p : Int), i ≤ nx ls ts i p
  | [], i, p => by unfold nx; omega
  | t :: ts, i, p => by
    unfold nx
    split
    · omega
    · have := nx_ge ls ts (i + 1) p; omega
theorem nx_le (ls : List Int) : ∀ (ts : List Int) (i p : Int), nx ls ts i p ≤ i + ts.length
  | [], i, p => by unfold nx; simp
  | t :: ts, i, p => by
    unfold nx
    split
    · simp; omega
    · have := nx_le ls ts (i + 1) p; simp; omega
theorem nx_drop (ls : List Int) : ∀ (n : Nat) (ts : List Int) (i p : Int), i + n ≤ p + 1 → n ≤ ts.length → nx ls ts i p = nx ls (ts.drop n) (i + n) p
  | 0, ts, i, p, _, _ => by simp
  | n + 1, [], i, p, _, h => by simp at h
  | n + 1, t :: ts, i, p, h, hl => by
    rw [nx, if_neg (by omega), nx_drop ls n ts (i + 1) p (by omega) (by simpa using hl)]
    simp
    congr 1
    omega
/-- the loop of next_place -/
theorem next_loop (T : D) (ts ls : List Int) (p : Int) (hT : ∀ i, dIx T (.int i) = (atI (ID ts) i).map .d) (LS : D) (hL : ∀ x, dIn (.int x) LS = some (.d (.bl (inL ls x)))) : ∀ (suf : List Int) (i : Nat) (o : Option Val) (ph : PH), ts.drop i = suf → p ≤ i →
    ∃ o', forL (gN 3) (sIf (tB (eBin dIn (eBin dIx (eVar 0) (eBin dSub (eVar 3) (eC (.int 1)))) (eVar 2))) (sRet (eVar 3)) sNx) (rngD ((i : Int) + 1) suf.length) [some (.d T), some (.d (.int p)), some (.d LS), o] ph =
      if nx ls suf ((i : Int) + 1) p ≤ i + suf.length then .ret (.d (.int (nx ls suf ((i : Int) + 1) p))) ph else .nx [some (.d T), some (.d (.int p)), some (.d LS), o'] ph
  | [], i, o, ph, _, _ => ⟨o, by simp [rngD, nx]; omega⟩
  | t :: suf, i, o, ph, hd, hp => by
    have hi : ts[i]? = some t := by
      have := congrArg (·[0]?) hd
      simpa using this
    have ha : atI (ID ts) (i : Int) = some (.int t) := atI_in (j := i) (by omega) (by rw [List.getElem?_map, hi]; rfl)
    have hd' : ts.drop (i + 1) = suf := by
      have := congrArg (List.drop 1) hd
      simpa [List.drop_drop, Nat.add_comm] using this
    by_cases hin : inL ls t = true
    · refine ⟨o, ?_⟩
      have e : nx ls (t :: suf) ((i : Int) + 1) p = (i : Int) + 1 := by rw [nx, if_pos ⟨by omega, hin⟩]
      rw [e, if_pos (by simp; omega), List.length_cons, rngD, forL_cons]
      simp [hT, ha, hL, hin]
    · have e : nx ls (t :: suf) ((i : Int) + 1) p = nx ls suf (((i + 1 : Nat) : Int) + 1) p := by
        rw [nx, if_neg (fun z => hin z.2)]; congr 1
      obtain ⟨o', ho⟩ := next_loop T ts ls p hT LS hL suf (i + 1) (some (.d (.int ((i : Int) + 1)))) ph hd' (by omega)
      refine ⟨o', ?_⟩
      rw [e, List.length_cons, rngD, forL_cons]
      have hin' : inL ls t = false := by simpa using hin
      simp [hT, ha, hL, hin']
      have c : (((i + 1 : Nat) : Int) + 1) = (i : Int) + 1 + 1 := by omega
      rw [c] at ho
      rw [ho]
      have c2 : (((i + 1 : Nat) : Int) + (suf.length : Int)) = (i : Int) + ((suf.length : Int) + 1) := by omega
      rw [c2]
def nextM (ts : List Int) (p : Int) (ls : List Int) : Int := nx ls ts 1 p
/-- what a text may be written as -/
structure Txt1 (T : D) (ts : List Int) : Prop where
  ix : ∀ i, dIx T (.int i) = (atI (ID ts) i).map .d
  ln : bLen [T] = some (.d (.int ts.length))
theorem txt_tup (ts : List Int) : Txt1 (.tup (ID ts)) ts := ⟨fun _ => rfl, by simp⟩
theorem txt_lst (ts : List Int) : Txt1 (.lst (ID ts)) ts := ⟨fun _ => rfl, by simp⟩
theorem sure_ok {T : D} {ts : List Int} (h : Txt1 T ts) {p : Int} (h0 : 0 ≤ p) (h1 : p ≤ ts.length + 1) (ph : PH) : f_sure_place [.d T, .d (.int p)] ph = .ok (.d .non) ph := by
  simp [f_sure_place, f_is_number, isTy, h.ln, h0, h1]
theorem next_ok {T : D} {ts : List Int} (h : Txt1 T ts) {p : Int} (h0 : 0 ≤ p) (h1 : p ≤ ts.length + 1) (hl : ts.length ≤ 1000) {LS : D} {ls : List Int} (hL : ∀ x, dIn (.int x) LS = some (.d (.bl (inL ls x)))) (ph : PH) :
    f_next_place [.d T, .d (.int p), .d LS] ph = .ok (.d (.int (nextM ts p ls))) ph := by
  obtain ⟨P, rfl⟩ : ∃ P : Nat, p = P := ⟨p.toNat, by omega⟩
  simp [f_next_place, sure_ok h h0 h1, h.ln, okR_of (i := (P : Int) + 1) (by omega) (by omega), okR_of (i := (ts.length : Int) + 1) (by omega) (by omega)]
  by_cases hP : P ≤ ts.length
  · obtain ⟨o', ho⟩ := next_loop T ts ls P h.ix LS hL (ts.drop P) P none ph rfl (Int.le_refl _)
    have e1 : ((ts.length : Int) + 1 - ((P : Int) + 1)).toNat = (ts.drop P).length := by rw [List.length_drop]; omega
    have e2 : nextM ts P ls = nx ls (ts.drop P) ((P : Int) + 1) P := by
      unfold nextM
      rw [nx_drop ls P ts 1 P (by omega) hP]
      congr 1; omega
    have e3 : (P : Int) + ((ts.drop P).length : Int) = ts.length := by rw [List.length_drop]; omega
    have l1 := nx_le ls (ts.drop P) ((P : Int) + 1) P
    rw [e1, ho, e2]
    by_cases hc : nx ls (ts.drop P) ((P : Int) + 1) P ≤ (P : Int) + ((ts.drop P).length : Int)
    · rw [if_pos hc]
      simp
    · rw [if_neg hc]
      simp [h.ln]
      omega
  · have e1 : ((ts.length : Int) + 1 - ((P : Int) + 1)).toNat = 0 := by omega
    have e2 : nextM ts P ls = (ts.length : Int) + 1 := by
      unfold nextM
      rw [nx_drop ls ts.length ts 1 P (by omega) (Nat.le_refl _), List.drop_length, nx]
      omega
    rw [e1, e2]
    simp [rngD, h.ln]
end Pyp

namespace Pyp
open PySem L2
/-! the nearest ahead of p -/
def lastL (ls : List Int) : List Int → Int → Int → Int → Int
  | [], _, _, acc => acc
  | t :: ts, i, p, acc => lastL ls ts (i + 1) p (if i < p ∧ inL ls t = true then i else acc)
def lastM (ts : List Int) (p : Int) (ls : List Int) : Int := lastL ls ts 1 p 0
theorem lastL_snoc (ls : List Int) (t : Int) : ∀ (ts : List Int) (i p acc : Int), lastL ls (ts ++ [t]) i p acc = if i + ts.length < p ∧ inL ls t = true then i + ts.length else lastL ls ts i p acc
  | [], i, p, acc => by simp [lastL]
  | s :: ts, i, p, acc => by
    show lastL ls (ts ++ [t]) (i + 1) p _ = _
    rw [lastL_snoc ls t ts (i + 1) p]
    have e : i + 1 + (ts.length : Int) = i + ((s :: ts).length : Int) := by simp; omega
    rw [e]; rfl
theorem lastL_past (ls : List Int) : ∀ (ts : List Int) (i p acc : Int), p ≤ i → lastL ls ts i p acc = acc
  | [], _, _, _, _ => rfl
  | t :: ts, i, p, acc, h => by
    rw [lastL, if_neg (by omega)]
    exact lastL_past ls ts (i + 1) p acc (by omega)
theorem lastL_app (ls : List Int) : ∀ (xs ys : List Int) (i p acc : Int), lastL ls (xs ++ ys) i p acc = lastL ls ys (i + xs.length) p (lastL ls xs i p acc)
  | [], ys, i, p, acc => by simp [lastL]
  | x :: xs, ys, i, p, acc => by
    show lastL ls (xs ++ ys) (i + 1) p _ = _
    rw [lastL_app ls xs ys (i + 1) p]
    have e : i + 1 + (xs.length : Int) = i + ((x :: xs).length : Int) := by simp; omega
    rw [e]; rfl
theorem lastM_take (ts ls : List Int) (n : Nat) (p : Int) (h : p ≤ n + 1) : lastM ts p ls = lastM (ts.take n) p ls := by
  unfold lastM
  have e : ts = ts.take n ++ ts.drop n := (List.take_append_drop n ts).symm
  have q := lastL_app ls (ts.take n) (ts.drop n) 1 p 0
  rw [← e] at q
  rw [q]
  by_cases hn : n ≤ ts.length
  · rw [lastL_past ls (ts.drop n) _ p _ (by rw [List.length_take]; omega)]
  · rw [List.drop_eq_nil_of_le (by omega)]; rfl
theorem last_loop (T : D) (ts ls : List Int) (p : Int) (hT : ∀ i, dIx T (.int i) = (atI (ID ts) i).map .d) (LS : D) (hL : ∀ x, dIn (.int x) LS = some (.d (.bl (inL ls x)))) : ∀ (n : Nat) (o : Option Val) (ph : PH), n ≤ ts.length → (n : Int) < p →
    ∃ o', (forL (gN 3) (sIf (tB (eBin dIn (eBin dIx (eVar 0) (eBin dSub (eVar 3) (eC (.int 1)))) (eVar 2))) (sRet (eVar 3)) sNx) (rngDn (n : Int) n) [some (.d T), some (.d (.int p)), some (.d LS), o] ph =
      if 1 ≤ lastM (ts.take n) p ls then .ret (.d (.int (lastM (ts.take n) p ls))) ph else .nx [some (.d T), some (.d (.int p)), some (.d LS), o'] ph) ∧ 0 ≤ lastM (ts.take n) p ls
  | 0, o, ph, _, _ => ⟨o, by simp [rngDn, lastM, lastL], by simp [lastM, lastL]⟩
  | n + 1, o, ph, hn, hp => by
    have hi : ts[n]? = some ts[n] := List.getElem?_eq_getElem (by omega)
    have ha : atI (ID ts) (n : Int) = some (.int ts[n]) := atI_in (j := n) rfl (by rw [List.getElem?_map, hi]; rfl)
    have et : ts.take (n + 1) = ts.take n ++ [ts[n]] := by rw [List.take_succ, hi]; rfl
    have el : ((ts.take n).length : Int) = n := by rw [List.length_take]; omega
    have e : lastM (ts.take (n + 1)) p ls = if inL ls ts[n] = true then (n : Int) + 1 else lastM (ts.take n) p ls := by
      unfold lastM
      rw [et, lastL_snoc, el]
      by_cases hin : inL ls ts[n] = true
      · rw [if_pos ⟨by omega, hin⟩, if_pos hin]; omega
      · rw [if_neg (fun z => hin z.2), if_neg hin]
    have c1 : ((n + 1 : Nat) : Int) = (n : Int) + 1 := by omega
    by_cases hin : inL ls ts[n] = true
    · rw [if_pos hin] at e
      refine ⟨o, ?_, by rw [e]; omega⟩
      rw [e, if_pos (by omega), rngDn, forL_cons, c1]
      simp [hT, ha, hL, hin]
    · rw [if_neg hin] at e
      obtain ⟨o', ho, hg⟩ := last_loop T ts ls p hT LS hL n (some (.d (.int ((n : Int) + 1)))) ph (by omega) (by omega)
      refine ⟨o', ?_, by rw [e]; exact hg⟩
      rw [e, rngDn, forL_cons, c1]
      have hin' : inL ls ts[n] = false := by simpa using hin
      simp [hT, ha, hL, hin']
      exact ho
theorem last_ok {T : D} {ts : List Int} (h : Txt1 T ts) {p : Int} (h0 : 0 ≤ p) (h1 : p ≤ ts.length + 1) (hl : ts.length ≤ 1000) {LS : D} {ls : List Int} (hL : ∀ x, dIn (.int x) LS = some (.d (.bl (inL ls x)))) (ph : PH) :
    f_last_place [.d T, .d (.int p), .d LS] ph = .ok (.d (.int (lastM ts p ls))) ph := by
  simp [f_last_place, sure_ok h h0 h1, okR_of (i := p - 1) (by omega) (by omega), okR_of (i := 0) (by decide) (by decide)]
  by_cases hp : 1 ≤ p
  · obtain ⟨n, rfl⟩ : ∃ n : Nat, p = (n : Int) + 1 := ⟨(p - 1).toNat, by omega⟩
    obtain ⟨o', ho, hg⟩ := last_loop T ts ls ((n : Int) + 1) h.ix LS hL n none ph (by omega) (by omega)
    have e1 : (n : Int) + 1 - 1 = n := by omega
    have e2 : ((n : Int) + 1 - 1).toNat = n := by omega
    rw [lastM_take ts ls n ((n : Int) + 1) (by omega)]
    rw [e1, show ((n : Int) + 1).toNat - 1 = n by omega, ho]
    by_cases hc : 1 ≤ lastM (ts.take n) ((n : Int) + 1) ls
    · rw [if_pos hc]; simp
    · rw [if_neg hc]; simp; omega
  · have e0 : p = 0 := by omega
    subst e0
    rw [lastM_take ts ls 0 0 (by omega)]
    simp [rngDn, lastM, lastL]
/-! the law's own looking -/
def goodN (ls : List Int) : List Int → Int → Int → List Int
  | [], _, _ => []
  | t :: ts, i, p => if p < i ∧ inL ls t = true then i :: goodN ls ts (i + 1) p else goodN ls ts (i + 1) p
def goodL (ls : List Int) : List Int → Int → Int → List Int
  | [], _, _ => []
  | t :: ts, i, p => if i < p ∧ inL ls t = true then i :: goodL ls ts (i + 1) p else goodL ls ts (i + 1) p
theorem goodN_head (ls : List Int) : ∀ (ts : List Int) (i p : Int), nx ls ts i p = (goodN ls ts i p).headD (i + ts.length)
  | [], i, p => by simp [nx, goodN]
  | t :: ts, i, p => by
    rw [nx, goodN]
    split
    · rfl
    · rw [goodN_head ls ts (i + 1) p]
      congr 1
      simp; omega
theorem goodL_last (ls : List Int) : ∀ (ts : List Int) (i p acc : Int), lastL ls ts i p acc = (goodL ls ts i p).getLastD acc
  | [], i, p, acc => rfl
  | t :: ts, i, p, acc => by
    rw [lastL, goodL, goodL_last ls ts (i + 1) p]
    split
    · cases goodL ls ts (i + 1) p <;> simp [List.getLast?_cons]
    · rfl
theorem goodN_len (ls : List Int) : ∀ (ts : List Int) (i p : Int), (goodN ls ts i p).length ≤ ts.length
  | [], i, p => by simp [goodN]
  | t :: ts, i, p => by
    rw [goodN]
    have := goodN_len ls ts (i + 1) p
    split <;> simp <;> omega
theorem goodL_len (ls : List Int) : ∀ (ts : List Int) (i p : Int), (goodL ls ts i p).length ≤ ts.length
  | [], i, p => by simp [goodL]
  | t :: ts, i, p => by
    rw [goodL]
    have := goodL_len ls ts (i + 1) p
    split <;> simp <;> omega
theorem deqs_nil (ns : List Int) : dNe (.lst (ID ns)) (.lst []) = some (.d (.bl (!ns.isEmpty))) := by
  have h : shp (.lst []) = true := rfl
  unfold dNe
  rw [if_pos ⟨shp_lst ns, h⟩]
  cases ns <;> rfl
end Pyp

namespace Pyp
open PySem L2
theorem cutL_ints (ns : List Int) (lo hi : Option Int) : cutL (ID ns) lo hi = ID (cutL ns lo hi) := by
  unfold cutL
  simp [ID, List.map_take, List.map_drop]
theorem cutL_le {α : Type} (ns : List α) (lo hi : Option Int) : (cutL ns lo hi).length ≤ ns.length := by
  unfold cutL
  rw [List.length_take, List.length_drop]; omega
theorem Urn.up {L L' : Int} {d : D} (h : Urn L d) (l : L ≤ L') : Urn L' d := let ⟨a, b, c, e, h1, h2, h3, h4, h5⟩ := h.ex; ⟨a, b, c, e, h1, h2, h3, h4, by omega⟩
theorem text_comp {lo : Int} (h0 : 0 < lo) (h1 : lo ≤ 1000) (n : Nat) (w m : Option Val) (hw : w = some (.d (.int lo))) : ∀ (k : Nat) (i L : Int) (ph : PH) (d : D) (acc : List Int), ph[n]? = some d → Urn L d → L + k ≤ 1000000 → acc.length + k ≤ 1000 → (∀ x ∈ acc, 1 ≤ x ∧ x ≤ lo) →
    ∃ ns d', compL (gN 3) tYesX (eBin dAdd (eC (.int 1)) (eCall f__law_take (aCons (eVar 0) (aCons (eVar 1) aNil)))) [some (.ref n), w, m, none] (rngD i k) (ID acc) ph = .ok (ID ns) (ph.set n d') ∧ ns.length = acc.length + k ∧ (∀ x ∈ ns, 1 ≤ x ∧ x ≤ lo) ∧ Urn (L + k) d'
  | 0, i, L, ph, d, acc, hd, hu, hL, ha, hx => by
    refine ⟨acc, d, ?_, by simp, hx, hu.up (by omega)⟩
    have hs : ph.set n d = ph := by
      apply List.ext_getElem?
      intro j
      by_cases hj : n = j
      · subst hj
        rw [List.getElem?_set_self (List.getElem?_eq_some_iff.mp hd).1, hd]
      · rw [List.getElem?_set_ne hj]
    simp [rngD, hs]
  | k + 1, i, L, ph, d, acc, hd, hu, hL, ha, hx => by
    obtain ⟨r, d1, e1, r0, r1, u1⟩ := take_ok (lo := lo) hd hu (by omega) h0 h1
    have hn : n < ph.length := (List.getElem?_eq_some_iff.mp hd).1
    have hacc : acc.length < lim := by unfold lim; omega
    obtain ⟨ns, d2, e2, l2, x2, u2⟩ := text_comp h0 h1 n w m hw k (i + 1) (L + 1) (ph.set n d1) d1 (acc ++ [1 + r]) (List.getElem?_set_self hn) u1 (by omega) (by simp; omega) (fun x hx' => by
      rcases List.mem_append.mp hx' with h | h
      · exact hx x h
      · have : x = 1 + r := by simpa using h
        omega)
    refine ⟨ns, d2, ?_, by rw [l2]; simp; omega, x2, u2.up (by omega)⟩
    subst hw
    rw [rngD, compL_cons]
    simp [e1, hacc]
    have e3 := e2
    simp at e3
    exact e3
theorem text_ok {lo most L : Int} (h0 : 0 < lo) (h1 : lo ≤ 1000) (m0 : 0 ≤ most) (m1 : most ≤ 100) {n : Nat} {ph : PH} {d : D} (hd : ph[n]? = some d) (hu : Urn L d) (hL : L ≤ 100000) :
    ∃ ns d', f__law_text [.ref n, .d (.int lo), .d (.int most)] ph = .ok (.d (.tup (ID ns))) (ph.set n d') ∧ (ns.length : Int) ≤ most ∧ (∀ x ∈ ns, 1 ≤ x ∧ x ≤ lo) ∧ Urn (L + 1 + most) d' := by
  obtain ⟨r, d1, e1, r0, r1, u1⟩ := take_ok (lo := most + 1) hd hu (by omega) (by omega) (by omega)
  have hn : n < ph.length := (List.getElem?_eq_some_iff.mp hd).1
  obtain ⟨ns, d2, e2, l2, x2, u2⟩ := text_comp h0 h1 n (some (.d (.int lo))) (some (.d (.int most))) rfl r.toNat 0 (L + 1) (ph.set n d1) d1 [] (List.getElem?_set_self hn) u1 (by omega) (by simp; omega) (fun _ h => nomatch h)
  refine ⟨ns, d2, ?_, by rw [l2]; simp; omega, x2, u2.up (by omega)⟩
  simp at e2
  simp [f__law_text, e1, okR_of (i := r) (by omega) (by omega), e2]
theorem set_self {n : Nat} {ph : PH} {d : D} (hd : ph[n]? = some d) : ph.set n d = ph := by
  apply List.ext_getElem?
  intro j
  by_cases hj : n = j
  · subst hj
    rw [List.getElem?_set_self (List.getElem?_eq_some_iff.mp hd).1, hd]
  · rw [List.getElem?_set_ne hj]
theorem of_ok {L : Int} {n : Nat} {ph : PH} {d : D} (hd : ph[n]? = some d) (hu : Urn L d) (hL : L ≤ 100000) {gs : List D} (h0 : 0 < gs.length) (h1 : gs.length ≤ 100) :
    ∃ g d', f__law_of [.ref n, .d (.lst gs)] ph = .ok (.d g) (ph.set n d') ∧ g ∈ gs ∧ Urn (L + 1) d' := by
  obtain ⟨r, d1, e1, r0, r1, u1⟩ := take_ok (lo := (gs.length : Int)) hd hu (by omega) (by omega) (by omega)
  obtain ⟨k, rfl⟩ : ∃ k : Nat, r = k := ⟨r.toNat, by omega⟩
  have hk : k < gs.length := by omega
  have ha : atI gs (k : Int) = some gs[k] := atI_in rfl (List.getElem?_eq_getElem hk)
  exact ⟨gs[k], d1, by simp [f__law_of, e1, ha], List.getElem_mem hk, u1⟩
/-! texts and changes -/
def atom : D → Bool
  | .int _ => true
  | .str _ => true
  | .bl _ => true
  | .non => true
  | _ => false
theorem tupof_atom {d : D} (h : atom d = true) (k : Nat) (ph : PH) : f_tuple_of (k + 1) [.d d] ph = .ok (.d d) ph := by
  cases d <;> first | (simp [f_tuple_of, isTy]; done) | cases h
theorem tupof_comp (k : Nat) (a : Option Val) : ∀ (ds acc : List D) (ph : PH), (∀ d ∈ ds, atom d = true) → acc.length + ds.length ≤ 1000 →
    compL (gN 1) tYesX (eCall (f_tuple_of (k + 1)) (aCons (eVar 1) aNil)) [a, none] ds acc ph = .ok (acc ++ ds) ph
  | [], acc, ph, _, _ => by simp
  | d :: ds, acc, ph, h, hl => by
    have hacc : acc.length < lim := by simp at hl; unfold lim; omega
    rw [compL_cons]
    simp [tupof_atom (h d List.mem_cons_self) k, hacc]
    rw [tupof_comp k a ds (acc ++ [d]) ph (fun e he => h e (List.mem_cons_of_mem _ he)) (by simp at hl ⊢; omega)]
    simp
theorem tupof_tup (k : Nat) {ds : List D} (h : ∀ d ∈ ds, atom d = true) (hl : ds.length ≤ 1000) (ph : PH) : f_tuple_of (k + 2) [.d (.tup ds)] ph = .ok (.d (.tup ds)) ph := by
  have := tupof_comp k (some (.d (.tup ds))) ds [] ph h (by simpa using hl)
  simp [f_tuple_of, isTy] at this ⊢
  simp [this]
theorem tupof_lst (k : Nat) {ds : List D} (h : ∀ d ∈ ds, atom d = true) (hl : ds.length ≤ 1000) (ph : PH) : f_tuple_of (k + 2) [.d (.lst ds)] ph = .ok (.d (.tup ds)) ph := by
  have := tupof_comp k (some (.d (.lst ds))) ds [] ph h (by simpa using hl)
  simp [f_tuple_of, isTy] at this ⊢
  simp [this]
theorem atom_ints (ns : List Int) : ∀ d ∈ ID ns, atom d = true := fun d h => by
  obtain ⟨n, _, rfl⟩ := List.mem_map.mp h
  rfl
abbrev wPut : List Nat := [112, 117, 116]
abbrev wDrop : List Nat := [100, 114, 111, 112]
abbrev wTurn : List Nat := [116, 117, 114, 110]
abbrev wPlace : List Nat := [112, 108, 97, 99, 101]
theorem cut_to {α : Type} (ts : List α) (n : Nat) : cutL ts none (some (n : Int)) = ts.take n := by
  unfold cutL
  rw [HT.sIx_nat]
  show (ts.drop 0).take (min n ts.length - 0) = _
  rw [List.drop_zero, Nat.sub_zero]
  by_cases h : n ≤ ts.length
  · rw [Nat.min_eq_left h]
  · rw [Nat.min_eq_right (by omega), List.take_of_length_le (Nat.le_refl _), List.take_of_length_le (by omega)]
theorem cut_from {α : Type} (ts : List α) (n : Nat) : cutL ts (some (n : Int)) none = ts.drop n := by
  unfold cutL
  rw [HT.sIx_nat]
  show (ts.drop (min n ts.length)).take (ts.length - min n ts.length) = _
  by_cases h : n ≤ ts.length
  · rw [Nat.min_eq_left h, List.take_of_length_le (by rw [List.length_drop]; omega)]
  · rw [Nat.min_eq_right (by omega), List.drop_eq_nil_of_le (Nat.le_refl _), List.drop_eq_nil_of_le (as := ts) (i := n) (by omega)]
    simp
theorem eq_str (x y : List Nat) (h : (x.all fun c => decide (c < 0x110000)) = true) (h' : (y.all fun c => decide (c < 0x110000)) = true) : dEq (.str x) (.str y) = some (.d (.bl (x == y))) := by
  have h1 : shp (.str x) = true := by unfold shp D.okB D.dep; rw [h]; rfl
  have h2 : shp (.str y) = true := by unfold shp D.okB D.dep; rw [h']; rfl
  unfold dEq
  rw [if_pos ⟨h1, h2⟩]
  unfold deq
  rfl
@[simp] theorem e_pp : dEq (.str wPut) (.str wPut) = some (.d (.bl true)) := eq_str _ _ rfl rfl
@[simp] theorem e_dp : dEq (.str wDrop) (.str wPut) = some (.d (.bl false)) := eq_str _ _ rfl rfl
@[simp] theorem e_tp : dEq (.str wTurn) (.str wPut) = some (.d (.bl false)) := eq_str _ _ rfl rfl
@[simp] theorem e_dd : dEq (.str wDrop) (.str wDrop) = some (.d (.bl true)) := eq_str _ _ rfl rfl
@[simp] theorem e_td : dEq (.str wTurn) (.str wDrop) = some (.d (.bl false)) := eq_str _ _ rfl rfl
@[simp] theorem e_pd : dEq (.str wPut) (.str wDrop) = some (.d (.bl false)) := eq_str _ _ rfl rfl
/-- a change: its word, its place (one more than n), its letter -/
inductive Chn where
  | put (n : Nat) (c : Int) | drop (n : Nat) | turn (n : Nat) (c : Int)
def Chn.row : Chn → List D
  | .put n c => [.str wPut, .int ((n : Int) + 1), .int c]
  | .drop n => [.str wDrop, .int ((n : Int) + 1)]
  | .turn n c => [.str wTurn, .int ((n : Int) + 1), .int c]
theorem chn_atom (c : Chn) : ∀ d ∈ c.row, atom d = true := by
  cases c <;> (intro d h; simp [Chn.row] at h; rcases h with rfl | rfl | rfl <;> rfl) <;> skip
theorem er_ints (ns : List Int) (k : Nat) : (ID ns).eraseIdx k = ID (ns.take k ++ ns.drop (k + 1)) := by
  rw [List.eraseIdx_eq_take_drop_succ]
  simp [ID, List.map_take, List.map_drop]
theorem ixN_nat {n k : Nat} (h : k < n) : ixN n (k : Int) = some k := by
  unfold ixN
  rw [if_pos (by omega), if_pos (by omega)]
  simp
theorem add_ints {ns ms : List Int} (h : ns.length + ms.length ≤ 1000) : dAdd (.tup (ID ns)) (.tup (ID ms)) = some (.d (.tup (ID (ns ++ ms)))) := by
  have h' : (ID ns).length + (ID ms).length ≤ lim := by simp [ID]; unfold lim; omega
  show (if (ID ns).length + (ID ms).length ≤ lim then some (Val.d (.tup (ID ns ++ ID ms))) else none) = _
  rw [if_pos h']
  simp [ID]
end Pyp

namespace Pyp
open PySem L2
abbrev wNext : List Nat := [110, 101, 120, 116]
abbrev wLast : List Nat := [108, 97, 115, 116]
abbrev wAsk : List Nat := [97, 115, 107]
abbrev wOrder : List Nat := [111, 114, 100, 101, 114]
abbrev wSay : List Nat := [115, 97, 121]
theorem ne_str (x y : List Nat) (h : (x.all fun c => decide (c < 0x110000)) = true) (h' : (y.all fun c => decide (c < 0x110000)) = true) : dNe (.str x) (.str y) = some (.d (.bl (!(x == y)))) := by
  have h1 : shp (.str x) = true := by unfold shp D.okB D.dep; rw [h]; rfl
  have h2 : shp (.str y) = true := by unfold shp D.okB D.dep; rw [h']; rfl
  unfold dNe
  rw [if_pos ⟨h1, h2⟩]
  unfold deq
  rfl
def wSide (sd : Bool) : List Nat := if sd then wNext else wLast
@[simp] theorem side_t : wSide true = wNext := rfl
@[simp] theorem side_f : wSide false = wLast := rfl
@[simp] theorem e_nn : dEq (.str wNext) (.str wNext) = some (.d (.bl true)) := eq_str _ _ rfl rfl
@[simp] theorem e_ln : dEq (.str wLast) (.str wNext) = some (.d (.bl false)) := eq_str _ _ rfl rfl
@[simp] theorem e_ll : dEq (.str wLast) (.str wLast) = some (.d (.bl true)) := eq_str _ _ rfl rfl
@[simp] theorem e_nl : dEq (.str wNext) (.str wLast) = some (.d (.bl false)) := eq_str _ _ rfl rfl
@[simp] theorem e_aa : dEq (.str wAsk) (.str wAsk) = some (.d (.bl true)) := eq_str _ _ rfl rfl
@[simp] theorem e_oa : dEq (.str wOrder) (.str wAsk) = some (.d (.bl false)) := eq_str _ _ rfl rfl
@[simp] theorem e_sa : dEq (.str wSay) (.str wAsk) = some (.d (.bl false)) := eq_str _ _ rfl rfl
@[simp] theorem n_as : dNe (.str wAsk) (.str wSay) = some (.d (.bl true)) := ne_str _ _ rfl rfl
@[simp] theorem n_os : dNe (.str wOrder) (.str wSay) = some (.d (.bl true)) := ne_str _ _ rfl rfl
@[simp] theorem n_ss : dNe (.str wSay) (.str wSay) = some (.d (.bl false)) := ne_str _ _ rfl rfl
@[simp] theorem e_tt : dEq (.str wTurn) (.str wTurn) = some (.d (.bl true)) := eq_str _ _ rfl rfl
@[simp] theorem e_dt : dEq (.str wDrop) (.str wTurn) = some (.d (.bl false)) := eq_str _ _ rfl rfl
@[simp] theorem e_pt : dEq (.str wPut) (.str wTurn) = some (.d (.bl false)) := eq_str _ _ rfl rfl
/-! what an ask finds -/
def fnd (sd : Bool) (ts : List Int) (p : Int) (ls : List Int) : Int := if sd then nextM ts p ls else lastM ts p ls
def good (ls : List Int) : List Int → Int → List Int
  | [], _ => []
  | t :: ts, i => if inL ls t = true then i :: good ls ts (i + 1) else good ls ts (i + 1)
theorem good_nx (ls : List Int) : ∀ (ts : List Int) (i p : Int), p < i → nx ls ts i p = (good ls ts i).headD (i + ts.length)
  | [], i, p, h => by simp [nx, good]
  | t :: ts, i, p, h => by
    rw [nx, good]
    by_cases hin : inL ls t = true
    · rw [if_pos ⟨h, hin⟩, if_pos hin]; rfl
    · rw [if_neg (fun z => hin z.2), if_neg hin, good_nx ls ts (i + 1) p (by omega)]
      congr 1
      simp; omega
theorem good_last (ls : List Int) : ∀ (ts : List Int) (i p acc : Int), i + ts.length ≤ p → lastL ls ts i p acc = (good ls ts i).getLastD acc
  | [], i, p, acc, _ => rfl
  | t :: ts, i, p, acc, h => by
    have h' : i + ((ts.length : Int) + 1) ≤ p := by simpa using h
    rw [lastL, good, good_last ls ts (i + 1) p _ (by omega)]
    by_cases hin : inL ls t = true
    · rw [if_pos ⟨by omega, hin⟩, if_pos hin]
      cases good ls ts (i + 1) <;> simp [List.getLast?_cons]
    · rw [if_neg (fun z => hin z.2), if_neg hin]
theorem good_len (ls : List Int) : ∀ (ts : List Int) (i : Int), (good ls ts i).length ≤ ts.length
  | [], i => by simp [good]
  | t :: ts, i => by
    rw [good]
    have := good_len ls ts (i + 1)
    split <;> simp <;> omega
theorem good_comp (ts ls : List Int) (o1 o2 : Option Val) : ∀ (suf : List Int) (i : Nat) (acc : List D) (ph : PH), (∃ rest, ts.drop i = suf ++ rest) → acc.length + suf.length ≤ 1000 →
    compL (gN 5) (tB (eBin dIn (eBin dIx (eVar 0) (eBin dSub (eVar 5) (eC (.int 1)))) (eVar 3))) (eVar 5) [some (.d (.tup (ID ts))), o1, o2, some (.d (.tup (ID ls))), none, none] (rngD ((i : Int) + 1) suf.length) acc ph = .ok (acc ++ ID (good ls suf ((i : Int) + 1))) ph
  | [], i, acc, ph, _, _ => by simp [rngD, good]
  | t :: suf, i, acc, ph, ⟨rest, hr⟩, hl => by
    have hacc : acc.length < lim := by simp at hl; unfold lim; omega
    have hi : ts[i]? = some t := by
      have := congrArg (·[0]?) hr
      simpa using this
    have ha : atI (ID ts) (i : Int) = some (.int t) := atI_in (j := i) rfl (by rw [List.getElem?_map, hi]; rfl)
    have hd' : ts.drop (i + 1) = suf ++ rest := by
      have := congrArg (List.drop 1) hr
      simpa [List.drop_drop, Nat.add_comm] using this
    have c1 : ((i + 1 : Nat) : Int) = (i : Int) + 1 := by omega
    rw [List.length_cons, rngD, compL_cons, good]
    by_cases hin : inL ls t = true
    · rw [if_pos hin]
      have := good_comp ts ls o1 o2 suf (i + 1) (acc ++ [D.int ((i : Int) + 1)]) ph ⟨rest, hd'⟩ (by simp at hl ⊢; omega)
      rw [c1] at this
      simp [ha, hin, hacc]
      rw [this]
      simp
    · rw [if_neg hin]
      have hin' : inL ls t = false := by simpa using hin
      have := good_comp ts ls o1 o2 suf (i + 1) acc ph ⟨rest, hd'⟩ (by simp at hl ⊢; omega)
      rw [c1] at this
      simp [ha, hin']
      rw [this]
theorem own_found {ts : List Int} {p : Int} (hl : ts.length ≤ 1000) (h0 : 0 ≤ p) (h1 : p ≤ ts.length + 1) (sd : Bool) (ls : List Int) (ph : PH) : f__law_found [.d (.tup (ID ts)), .d (.int p), .d (.str (wSide sd)), .d (.tup (ID ls))] ph = .ok (.d (.int (fnd sd ts p ls))) ph := by
  obtain ⟨P, rfl⟩ : ∃ P : Nat, p = P := ⟨p.toNat, by omega⟩
  have k1 := okR_of (i := (P : Int) + 1) (by omega) (by omega)
  have k2 := okR_of (i := (ts.length : Int) + 1) (by omega) (by omega)
  have k3 := okR_of (i := (P : Int)) (by omega) (by omega)
  have k4 := okR_of (i := (1 : Int)) (by omega) (by omega)
  cases sd with
  | true =>
    have hc := good_comp ts ls (some (.d (.int P))) (some (.d (.str wNext))) (ts.drop P) P [] ph ⟨[], by simp⟩ (by simp; omega)
    have e1 : ((ts.length : Int) + 1 - ((P : Int) + 1)).toNat = ts.length - P := by omega
    have e2 : nextM ts P ls = (good ls (ts.drop P) ((P : Int) + 1)).headD ((ts.length : Int) + 1) := by
      unfold nextM
      by_cases hP : P ≤ ts.length
      · rw [nx_drop ls P ts 1 P (by omega) hP, good_nx ls _ _ _ (by omega)]
        have a1 : (1 : Int) + (P : Int) = (P : Int) + 1 := by omega
        rw [a1]
        congr 1
        rw [List.length_drop]; omega
      · rw [nx_drop ls ts.length ts 1 P (by omega) (Nat.le_refl _), List.drop_length, List.drop_eq_nil_of_le (by omega), nx, good]
        simp; omega
    rw [List.length_drop] at hc
    simp at hc
    simp [f__law_found, k1, k2, e1, hc, deqs_nil, fnd, e2]
    cases hg : good ls (ts.drop P) ((P : Int) + 1) with
    | nil => simp
    | cons g gs => simp
  | false =>
    have e1 : ((P : Int) - 1).toNat = (ts.take (P - 1)).length := by rw [List.length_take]; omega
    have hc := good_comp ts ls (some (.d (.int P))) (some (.d (.str wLast))) (ts.take (P - 1)) 0 [] ph ⟨ts.drop (P - 1), by simp⟩ (by simp; omega)
    have e2 : lastM ts P ls = (good ls (ts.take (P - 1)) 1).getLastD 0 := by
      by_cases hP : 1 ≤ P
      · rw [lastM_take ts ls (P - 1) P (by omega)]
        show lastL ls (ts.take (P - 1)) 1 P 0 = _
        exact good_last ls _ 1 P 0 (by rw [List.length_take]; omega)
      · have : P = 0 := by omega
        subst this
        show lastL ls ts 1 ((0 : Nat) : Int) 0 = _
        rw [lastL_past ls ts 1 _ 0 (by simp)]
        rfl
    have hc' : compL (gN 5) (tB (eBin dIn (eBin dIx (eVar 0) (eBin dSub (eVar 5) (eC (.int 1)))) (eVar 3))) (eVar 5) [some (.d (.tup (ID ts))), some (.d (.int P)), some (.d (.str wLast)), some (.d (.tup (ID ls))), none, none] (rngD 1 (ts.take (P - 1)).length) [] ph = .ok (ID (good ls (ts.take (P - 1)) 1)) ph := hc
    simp only [fnd, Bool.false_eq_true, if_false, e2]
    rw [List.length_take, Nat.min_eq_left (by omega)] at hc'
    simp [f__law_found, k3, k4, hc', deqs_nil]
    rcases List.eq_nil_or_concat (good ls (ts.take (P - 1)) 1) with hg | ⟨gs, g, hg⟩
    · simp [hg]
    · have ha : atI (ID gs ++ [D.int g]) (-1) = some (.int g) := atI_last
      simp [hg, ha]
theorem found_ok {ts : List Int} {p : Int} (hl : ts.length ≤ 1000) (h0 : 0 ≤ p) (h1 : p ≤ ts.length + 1) (sd : Bool) (ls : List Int) (ph : PH) : f_found [.d (.tup (ID ts)), .d (.int p), .d (.str (wSide sd)), .d (.tup (ID ls))] ph = .ok (.d (.int (fnd sd ts p ls))) ph := by
  have n1 := next_ok (txt_tup ts) h0 h1 hl (LS := .tup (ID ls)) (ls := ls) (fun x => dIn_tup x ls) ph
  have n2 := last_ok (txt_tup ts) h0 h1 hl (LS := .tup (ID ls)) (ls := ls) (fun x => dIn_tup x ls) ph
  cases sd with
  | true => simp [f_found, n1, fnd]
  | false => simp [f_found, n2, fnd]
theorem lastL_rng (ls : List Int) : ∀ (ts : List Int) (i p acc : Int), 0 ≤ acc → acc < i → 0 ≤ lastL ls ts i p acc ∧ lastL ls ts i p acc < i + ts.length
  | [], i, p, acc, h, h2 => by simp [lastL]; omega
  | t :: ts, i, p, acc, h, h2 => by
    have := lastL_rng ls ts (i + 1) p (if i < p ∧ inL ls t = true then i else acc) (by split <;> omega) (by split <;> omega)
    rw [lastL]; simp; omega
theorem fnd_rng (sd : Bool) (ts : List Int) (p : Int) (ls : List Int) : 0 ≤ fnd sd ts p ls ∧ fnd sd ts p ls ≤ ts.length + 1 := by
  cases sd with
  | true =>
    have a := nx_ge ls ts 1 p
    have b := nx_le ls ts 1 p
    simp only [fnd, nextM, if_true]; omega
  | false =>
    have := lastL_rng ls ts 1 p 0 (by decide) (by decide)
    simp only [fnd, lastM, Bool.false_eq_true, if_false]; omega
end Pyp

namespace Pyp
open PySem L2
inductive Knot where
  | ask (sp : Nat) (sd : Bool) (ls : List Int) (th : Nat) | ord (a b x y z : Nat) | say (yes : Bool)
def Knot.row : Knot → List D
  | .ask sp sd ls th => [.str wAsk, .int sp, .str (wSide sd), .tup (ID ls), .int th]
  | .ord a b x y z => [.str wOrder, .int a, .int b, .int x, .int y, .int z]
  | .say yes => [.str wSay, .bl yes]
def Knot.d (k : Knot) : D := .tup k.row
structure Row where
  sp : Nat
  sd : Bool
  near : Int
  far : Int
  ls : List Int
  th : Nat
def Row.d (r : Row) : D := .tup [.int r.sp, .str (wSide r.sd), .int r.near, .int r.far, .tup (ID r.ls)]
def Row.e (r : Row) : D := .tup [.str (wSide r.sd), .int r.near, .int r.far, .tup (ID r.ls)]
abbrev ND (ks : List Nat) : List D := ks.map fun (k : Nat) => D.int (k : Int)
/-- where a run stands -/
structure RS where
  k : Nat
  pre : List Nat
  spots : List Int
  rows : List Row
def RS.way (s : RS) : List Nat := s.pre ++ [s.k]
abbrev Tree := List Knot
/-- next knot of an order -/
def ordTo (p q : Int) (x y z : Nat) : Nat := if p < q then x else if p = q then y else z
def stp (T : Tree) (ts : List Int) (s : RS) : RS := match T[s.k]? with
  | some (.ask sp sd ls th) => ⟨th, s.pre ++ [s.k], s.spots ++ [fnd sd ts (s.spots.getD sp 0) ls], s.rows ++ [⟨sp, sd, s.spots.getD sp 0, fnd sd ts (s.spots.getD sp 0) ls, ls, th⟩]⟩
  | some (.ord a b x y z) => ⟨ordTo (s.spots.getD a 0) (s.spots.getD b 0) x y z, s.pre ++ [s.k], s.spots, s.rows⟩
  | _ => s
def runS (T : Tree) (ts : List Int) : Nat → RS → RS
  | 0, s => s
  | f + 1, s => match T[s.k]? with
    | some (.say _) => s
    | _ => runS T ts f (stp T ts s)
/-- a tree: each spot that is looked from is there, each way leads on -/
def KnotOk (n : Nat) (lv : Nat → Nat) (k : Nat) : Knot → Prop
  | .ask sp _ ls th => sp < lv k ∧ k < th ∧ th < n ∧ lv th = lv k + 1 ∧ ls.length ≤ 10
  | .ord a b x y z => a < lv k ∧ b < lv k ∧ (k < x ∧ x < n ∧ lv x = lv k) ∧ (k < y ∧ y < n ∧ lv y = lv k) ∧ (k < z ∧ z < n ∧ lv z = lv k)
  | .say _ => True
structure WF (T : Tree) (lv : Nat → Nat) : Prop where
  pos : 0 < T.length
  len : T.length ≤ 10
  zero : lv 0 = 2
  ok : ∀ k x, T[k]? = some x → KnotOk T.length lv k x
structure Ok (T : Tree) (lv : Nat → Nat) (ts : List Int) (s : RS) : Prop where
  klt : s.k < T.length
  lv_ : s.spots.length = lv s.k
  rng : ∀ p ∈ s.spots, 0 ≤ p ∧ p ≤ ts.length + 1
  rl : s.rows.length ≤ s.k
  pl : s.pre.length ≤ s.k
  sl : s.spots.length = s.rows.length + 2
theorem getD_at {xs : List Int} {i : Nat} (h : i < xs.length) : xs[i]? = some (xs.getD i 0) := by
  rw [List.getD_eq_getElem?_getD, List.getElem?_eq_getElem h]; rfl
theorem getD_rng {ts xs : List Int} {i : Nat} (h : i < xs.length) (r : ∀ p ∈ xs, 0 ≤ p ∧ p ≤ (ts.length : Int) + 1) : 0 ≤ xs.getD i 0 ∧ xs.getD i 0 ≤ (ts.length : Int) + 1 :=
  r _ (List.mem_of_getElem? (getD_at h))
theorem ordTo_ok {P : Nat → Prop} {p q : Int} {x y z : Nat} (hx : P x) (hy : P y) (hz : P z) : P (ordTo p q x y z) := by
  unfold ordTo; split
  · exact hx
  · split
    · exact hy
    · exact hz
theorem Ok.stp {T lv ts s} (w : WF T lv) (o : Ok T lv ts s) (hs : ∀ y, T[s.k]? ≠ some (.say y)) : Ok T lv ts (stp T ts s) ∧ s.k < (stp T ts s).k := by
  obtain ⟨x, hk⟩ : ∃ x, T[s.k]? = some x := ⟨_, List.getElem?_eq_getElem o.klt⟩
  have kw := w.ok _ _ hk
  cases x with
  | say y => exact absurd hk (hs y)
  | ask sp sd ls th =>
    obtain ⟨h1, h2, h3, h4, h5⟩ := kw
    have e : Pyp.stp T ts s = ⟨th, s.pre ++ [s.k], s.spots ++ [fnd sd ts (s.spots.getD sp 0) ls], s.rows ++ [⟨sp, sd, s.spots.getD sp 0, fnd sd ts (s.spots.getD sp 0) ls, ls, th⟩]⟩ := by unfold Pyp.stp; rw [hk]
    rw [e]
    refine ⟨⟨h3, by simp [o.lv_, h4], fun p hp => ?_, by have := o.rl; simp; omega, by have := o.pl; simp; omega, by simp [o.sl]⟩, h2⟩
    rcases List.mem_append.mp hp with hp | hp
    · exact o.rng p hp
    · have : p = fnd sd ts (s.spots.getD sp 0) ls := by simpa using hp
      subst this
      exact fnd_rng sd ts _ ls
  | ord a b x y z =>
    obtain ⟨h1, h2, h3, h4, h5⟩ := kw
    have e : Pyp.stp T ts s = ⟨ordTo (s.spots.getD a 0) (s.spots.getD b 0) x y z, s.pre ++ [s.k], s.spots, s.rows⟩ := by unfold Pyp.stp; rw [hk]
    have g := ordTo_ok (P := fun j => s.k < j ∧ j < T.length ∧ lv j = lv s.k) (p := s.spots.getD a 0) (q := s.spots.getD b 0) h3 h4 h5
    rw [e]
    exact ⟨⟨g.2.1, o.lv_.trans g.2.2.symm, o.rng, Nat.le_trans o.rl (Nat.le_of_lt g.1), by have := o.pl; have := g.1; simp only [List.length_append, List.length_singleton]; omega, o.sl⟩, g.1⟩
theorem sWhile_succ (t : Tx) (b : Sx) (n : Nat) (env : Env) (ph : PH) : sWhile t b (n + 1) env ph = (t env ph).bindS env fun c ph1 => if c = true then (match b env ph1 with
    | .nx env2 ph2 => sWhile t b n env2 ph2
    | .ct env2 ph2 => sWhile t b n env2 ph2
    | .bk env2 ph2 => .nx env2 ph2
    | o => o) else .nx env ph1 := rfl
abbrev TD (T : Tree) : D := .tup (T.map Knot.d)
/-! the law's own run -/
def tLR : Tx := (tB (eBin dNe (eBin dIx (eBin dIx (eVar 0) (eVar 4)) (eC (.int 0))) (eC (.str [115, 97, 121]))))
def bLR : Sx := (sSeq (sSet 6 (eBin dIx (eVar 0) (eVar 4)))
    (sSeq (sIf (tB (eBin dEq (eBin dIx (eVar 6) (eC (.int 0))) (eC (.str [97, 115, 107]))))
      (sSeq (sSet 7 (eCall f__law_found (aCons (eVar 1) (aCons (eBin dIx (eVar 2) (eBin dIx (eVar 6) (eC (.int 1)))) (aCons (eBin dIx (eVar 6) (eC (.int 2))) (aCons (eBin dIx (eVar 6) (eC (.int 3))) aNil))))))
      (sSeq (sMut 3 fApp (aCons (eTup (aCons (eBin dIx (eVar 6) (eC (.int 1))) (aCons (eBin dIx (eVar 6) (eC (.int 2))) (aCons (eBin dIx (eVar 2) (eBin dIx (eVar 6) (eC (.int 1)))) (aCons (eVar 7) (aCons (eBin dIx (eVar 6) (eC (.int 3))) aNil)))))) aNil))
      (sSeq (sMut 2 fApp (aCons (eVar 7) aNil))
      (sSet 4 (eBin dIx (eVar 6) (eC (.int 4)))))))
      (sSeq (sPar [8, 9] (aCons (eBin dIx (eVar 2) (eBin dIx (eVar 6) (eC (.int 1)))) (aCons (eBin dIx (eVar 2) (eBin dIx (eVar 6) (eC (.int 2)))) aNil)))
      (sSet 4 (eIf (tB (eBin dLt (eVar 8) (eVar 9))) (eBin dIx (eVar 6) (eC (.int 3))) (eIf (tB (eBin dEq (eVar 8) (eVar 9))) (eBin dIx (eVar 6) (eC (.int 4))) (eBin dIx (eVar 6) (eC (.int 5))))))))
    (sMut 5 fApp (aCons (eVar 4) aNil))))
def E10 (T : Tree) (ts : List Int) (s : RS) (o6 o7 o8 o9 : Option Val) : Env := [some (.d (TD T)), some (.d (.tup (ID ts))), some (.own (.lst (ID s.spots))), some (.own (.lst (s.rows.map Row.d))), some (.d (.int s.k)), some (.own (.lst (ND s.way))), o6, o7, o8, o9]
theorem at3 {ds : List D} {a b c d : D} : atI (a :: b :: c :: d :: ds) 3 = some d := atI_in (j := 3) rfl rfl
theorem at4 {ds : List D} {a b c d e : D} : atI (a :: b :: c :: d :: e :: ds) 4 = some e := atI_in (j := 4) rfl rfl
theorem at5 {ds : List D} {a b c d e f : D} : atI (a :: b :: c :: d :: e :: f :: ds) 5 = some f := atI_in (j := 5) rfl rfl
theorem lr_step {T lv ts s} (w : WF T lv) (o : Ok T lv ts s) (hl : ts.length ≤ 100) (hs : ∀ y, T[s.k]? ≠ some (.say y)) (o6 o7 o8 o9 : Option Val) (ph : PH) :
    ∃ p6 p7 p8 p9, tLR (E10 T ts s o6 o7 o8 o9) ph = .ok true ph ∧ bLR (E10 T ts s o6 o7 o8 o9) ph = .nx (E10 T ts (stp T ts s) p6 p7 p8 p9) ph := by
  obtain ⟨x, hk⟩ : ∃ x, T[s.k]? = some x := ⟨_, List.getElem?_eq_getElem o.klt⟩
  have kw := w.ok _ _ hk
  have hR : s.rows.length < 1000000 := by have := o.rl; have := o.klt; have := w.len; omega
  have hS : s.spots.length < 1000000 := by have := o.sl; have := o.rl; have := o.klt; have := w.len; omega
  have hP : s.pre.length + 1 < 1000000 := by have := o.pl; have := o.klt; have := w.len; omega
  cases x with
  | say y => exact absurd hk (hs y)
  | ask sp sd ls th =>
    obtain ⟨h1, h2, h3, h4, h5⟩ := kw
    have hsp : sp < s.spots.length := by rw [o.lv_]; exact h1
    have ha : atI (T.map Knot.d) (s.k : Int) = some (.tup [.str wAsk, .int sp, .str (wSide sd), .tup (ID ls), .int th]) := atI_in (j := s.k) rfl (by rw [List.getElem?_map, hk]; rfl)
    have hn : atI (ID s.spots) (sp : Int) = some (.int (s.spots.getD sp 0)) := atI_in (j := sp) rfl (by rw [List.getElem?_map, getD_at hsp]; rfl)
    obtain ⟨r0, r1⟩ := getD_rng hsp o.rng
    have hf := fun ph => own_found (by omega) r0 r1 sd ls ph
    have e : stp T ts s = ⟨th, s.pre ++ [s.k], s.spots ++ [fnd sd ts (s.spots.getD sp 0) ls], s.rows ++ [⟨sp, sd, s.spots.getD sp 0, fnd sd ts (s.spots.getD sp 0) ls, ls, th⟩]⟩ := by unfold Pyp.stp; rw [hk]
    rw [e]
    generalize s.spots.getD sp 0 = P at *
    refine ⟨some (.d (.tup [.str wAsk, .int sp, .str (wSide sd), .tup (ID ls), .int th])), some (.d (.int (fnd sd ts P ls))), o8, o9, by simp [tLR, E10, ha], ?_⟩
    simp [bLR, E10, ha, at3, at4, hn, hf, sMut, fApp, hR, hS, hP, RS.way, Row.d, lim]
  | ord a b x y z =>
    obtain ⟨h1, h2, h3, h4, h5⟩ := kw
    have hsa : a < s.spots.length := by rw [o.lv_]; exact h1
    have hsb : b < s.spots.length := by rw [o.lv_]; exact h2
    have ha : atI (T.map Knot.d) (s.k : Int) = some (.tup [.str wOrder, .int a, .int b, .int x, .int y, .int z]) := atI_in (j := s.k) rfl (by rw [List.getElem?_map, hk]; rfl)
    have hn : atI (ID s.spots) (a : Int) = some (.int (s.spots.getD a 0)) := atI_in (j := a) rfl (by rw [List.getElem?_map, getD_at hsa]; rfl)
    have hm : atI (ID s.spots) (b : Int) = some (.int (s.spots.getD b 0)) := atI_in (j := b) rfl (by rw [List.getElem?_map, getD_at hsb]; rfl)
    have e : stp T ts s = ⟨ordTo (s.spots.getD a 0) (s.spots.getD b 0) x y z, s.pre ++ [s.k], s.spots, s.rows⟩ := by unfold Pyp.stp; rw [hk]
    rw [e]
    generalize s.spots.getD a 0 = P at *
    generalize s.spots.getD b 0 = Q at *
    refine ⟨some (.d (.tup [.str wOrder, .int a, .int b, .int x, .int y, .int z])), o7, some (.d (.int P)), some (.d (.int Q)), by simp [tLR, E10, ha], ?_⟩
    by_cases c1 : P < Q
    · simp [bLR, E10, ha, at3, at4, at5, hn, hm, sMut, fApp, hP, RS.way, lim, ordTo, c1]
    · by_cases c2 : P = Q
      · simp [bLR, E10, ha, at3, at4, at5, hn, hm, sMut, fApp, hP, RS.way, lim, ordTo, c1, c2]
      · simp [bLR, E10, ha, at3, at4, at5, hn, hm, sMut, fApp, hP, RS.way, lim, ordTo, c1, c2]
theorem lr_say {T ts s y} (hk : T[s.k]? = some (.say y)) (o6 o7 o8 o9 : Option Val) (ph : PH) : tLR (E10 T ts s o6 o7 o8 o9) ph = .ok false ph := by
  have ha : atI (T.map Knot.d) (s.k : Int) = some (.tup [.str wSay, .bl y]) := atI_in (j := s.k) rfl (by rw [List.getElem?_map, hk]; rfl)
  simp [tLR, E10, ha]
theorem runS_say {T ts s y} (hk : T[s.k]? = some (.say y)) : ∀ f, runS T ts f s = s
  | 0 => rfl
  | f + 1 => by rw [runS, hk]
theorem runS_stp {T ts s} (hs : ∀ y, T[s.k]? ≠ some (.say y)) (f : Nat) : runS T ts (f + 1) s = runS T ts f (stp T ts s) := by
  rw [runS]
  split
  · rename_i y h; exact absurd h (hs y)
  · rfl
theorem say_dec (T : Tree) (k : Nat) : (∃ y, T[k]? = some (.say y)) ∨ ∀ y, T[k]? ≠ some (.say y) := by
  cases h : T[k]? with
  | none => right; intro y e; cases e
  | some x =>
    cases x with
    | say y => exact .inl ⟨y, rfl⟩
    | ask _ _ _ _ => right; intro y e; cases e
    | ord _ _ _ _ _ => right; intro y e; cases e
theorem lr_loop {T lv ts} (w : WF T lv) (hl : ts.length ≤ 100) : ∀ (m : Nat) (s : RS) (F : Nat) (o6 o7 o8 o9 : Option Val) (ph : PH), Ok T lv ts s → T.length ≤ m + s.k → m < F →
    ∃ p6 p7 p8 p9, sWhile tLR bLR F (E10 T ts s o6 o7 o8 o9) ph = .nx (E10 T ts (runS T ts m s) p6 p7 p8 p9) ph
  | 0, s, F, o6, o7, o8, o9, ph, o, hm, hF => absurd o.klt (by omega)
  | m + 1, s, 0, o6, o7, o8, o9, ph, o, hm, hF => absurd hF (by omega)
  | m + 1, s, F + 1, o6, o7, o8, o9, ph, o, hm, hF => by
    rcases say_dec T s.k with ⟨y, hk⟩ | hs
    · refine ⟨o6, o7, o8, o9, ?_⟩
      rw [sWhile_succ, lr_say hk, runS_say hk]
      rfl
    · obtain ⟨o', hlt⟩ := o.stp w hs
      obtain ⟨q6, q7, q8, q9, e1, e2⟩ := lr_step w o hl hs o6 o7 o8 o9 ph
      obtain ⟨p6, p7, p8, p9, e3⟩ := lr_loop w hl m (stp T ts s) F q6 q7 q8 q9 ph o' (by omega) (by omega)
      refine ⟨p6, p7, p8, p9, ?_⟩
      rw [sWhile_succ, e1, runS_stp hs]
      show (match bLR (E10 T ts s o6 o7 o8 o9) ph with
        | .nx env2 ph2 => sWhile tLR bLR F env2 ph2
        | .ct env2 ph2 => sWhile tLR bLR F env2 ph2
        | .bk env2 ph2 => .nx env2 ph2
        | o => o) = _
      rw [e2]
      exact e3
theorem runS_ok {T lv ts} (w : WF T lv) : ∀ (m : Nat) (s : RS), Ok T lv ts s → T.length ≤ m + s.k → Ok T lv ts (runS T ts m s) ∧ ∃ y, T[(runS T ts m s).k]? = some (.say y)
  | 0, s, o, hm => absurd o.klt (by omega)
  | m + 1, s, o, hm => by
    rcases say_dec T s.k with ⟨y, hk⟩ | hs
    · rw [runS_say hk]; exact ⟨o, y, hk⟩
    · obtain ⟨o', hlt⟩ := o.stp w hs
      rw [runS_stp hs]
      exact runS_ok w m _ o' (by omega)
def s0 (ts : List Int) : RS := ⟨0, [], [0, (ts.length : Int) + 1], []⟩
theorem s0_ok {T lv} (w : WF T lv) (ts : List Int) : Ok T lv ts (s0 ts) := ⟨w.pos, w.zero.symm, fun p hp => by
  have : p = 0 ∨ p = (ts.length : Int) + 1 := by simpa [s0] using hp
  omega, Nat.zero_le _, Nat.zero_le _, rfl⟩
/-- the run -/
def fin (T : Tree) (ts : List Int) : RS := runS T ts 10 (s0 ts)
def yesAt (T : Tree) (k : Nat) : Bool := match T[k]? with
  | some (.say y) => y
  | _ => false
theorem fin_ok {T lv} (w : WF T lv) (ts : List Int) : Ok T lv ts (fin T ts) ∧ T[(fin T ts).k]? = some (.say (yesAt T (fin T ts).k)) := by
  obtain ⟨o, y, e⟩ := runS_ok w 10 (s0 ts) (s0_ok w ts) (by have := w.len; omega)
  refine ⟨o, ?_⟩
  show T[(fin T ts).k]? = _
  have e' : T[(fin T ts).k]? = some (.say y) := e
  rw [e', yesAt, e']
theorem law_run {T lv ts} (w : WF T lv) (hl : ts.length ≤ 100) (ph : PH) : f__law_run [.d (TD T), .d (.tup (ID ts))] ph = .ok (.d (.tup [.lst ((fin T ts).rows.map Row.d), .bl (yesAt T (fin T ts).k), .lst (ND (fin T ts).way)])) ph := by
  obtain ⟨p6, p7, p8, p9, e⟩ := lr_loop w hl 10 (s0 ts) 100000 none none none none ph (s0_ok w ts) (by have := w.len; omega) (by decide)
  obtain ⟨o, hk⟩ := fin_ok w ts
  have ha : atI (T.map Knot.d) ((fin T ts).k : Int) = some (.tup [.str wSay, .bl (yesAt T (fin T ts).k)]) := atI_in (j := (fin T ts).k) rfl (by rw [List.getElem?_map, hk]; rfl)
  have e' : sWhile (tB (eBin dNe (eBin dIx (eBin dIx (eVar 0) (eVar 4)) (eC (.int 0))) (eC (.str [115, 97, 121])))) bLR 100000 [some (.d (TD T)), some (.d (.tup (ID ts))), some (.own (.lst [.int 0, .int ((ts.length : Int) + 1)])), some (.own (.lst [])), some (.d (.int 0)), some (.own (.lst [.int 0])), none, none, none, none] ph = .nx (E10 T ts (fin T ts) p6 p7 p8 p9) ph := e
  have key : f__law_run = runF 10 (sSeq (sParN [2, 3, 4, 5] [eLst (aCons (eC (.int 0)) (aCons (eBin dAdd (eB bLen (aCons (eVar 1) aNil)) (eC (.int 1))) aNil)), eLst aNil, eC (.int 0), eLst (aCons (eC (.int 0)) aNil)])
    (sSeq (sWhile (tB (eBin dNe (eBin dIx (eBin dIx (eVar 0) (eVar 4)) (eC (.int 0))) (eC (.str [115, 97, 121])))) bLR 100000)
    (sFz 5 (sFz 3 (sRet (eTup (aCons (eVar 3) (aCons (eBin dIx (eBin dIx (eVar 0) (eVar 4)) (eC (.int 1))) (aCons (eVar 5) aNil))))))))) := rfl
  rw [key]
  simp [lim, e']
  simp [E10, ha, lim]
end Pyp

namespace Pyp
open PySem L2
/-! lists as tuples, tuples as lists -/
def tupK : Nat → D → D
  | k + 1, .tup ds => .tup (ds.map (tupK k))
  | k + 1, .lst ds => .tup (ds.map (tupK k))
  | _, d => d
def lstK : Nat → D → D
  | k + 1, .tup ds => .lst (ds.map (lstK k))
  | k + 1, .lst ds => .lst (ds.map (lstK k))
  | _, d => d
theorem tupof_comp2 {k : Nat} (ih : ∀ d, okS k d → ∀ ph, f_tuple_of k [.d d] ph = .ok (.d (tupK k d)) ph) (a : Option Val) : ∀ (ds acc : List D) (ph : PH), (∀ d ∈ ds, okS k d) → acc.length + ds.length ≤ 1000 →
    compL (gN 1) tYesX (eCall (f_tuple_of k) (aCons (eVar 1) aNil)) [a, none] ds acc ph = .ok (acc ++ ds.map (tupK k)) ph
  | [], acc, ph, _, _ => by simp
  | d :: ds, acc, ph, h, hl => by
    have hacc : acc.length < lim := by simp at hl; unfold lim; omega
    rw [compL_cons]
    simp [ih d (h d List.mem_cons_self), hacc]
    rw [tupof_comp2 ih a ds (acc ++ [tupK k d]) ph (fun e he => h e (List.mem_cons_of_mem _ he)) (by simp at hl ⊢; omega)]
    simp
theorem tupof_gen : ∀ (k : Nat) (d : D), okS k d → ∀ ph, f_tuple_of k [.d d] ph = .ok (.d (tupK k d)) ph
  | 0, d, h, ph => h.elim
  | k + 1, d, h, ph => by
    have ih := tupof_gen k
    cases d with
    | int i => simp [f_tuple_of, isTy, tupK]
    | bl b => simp [f_tuple_of, isTy, tupK]
    | str x => simp [f_tuple_of, isTy, tupK]
    | tup ds =>
      obtain ⟨h1, h2⟩ : ds.length ≤ 1000 ∧ ∀ e ∈ ds, okS k e := h
      have := tupof_comp2 ih (some (.d (.tup ds))) ds [] ph h2 (by simpa using h1)
      simp [f_tuple_of, isTy, tupK, this]
    | lst ds =>
      obtain ⟨h1, h2⟩ : ds.length ≤ 1000 ∧ ∀ e ∈ ds, okS k e := h
      have := tupof_comp2 ih (some (.d (.lst ds))) ds [] ph h2 (by simpa using h1)
      simp [f_tuple_of, isTy, tupK, this]
    | non => exact h.elim
    | dic _ _ => exact h.elim
    | fz _ => exact h.elim
theorem lists_comp {k : Nat} (ih : ∀ d, okS k d → ∀ ph, ∃ v, f__law_lists k [.d d] ph = .ok v ph ∧ v.dat = some (lstK k d)) (a : Option Val) : ∀ (ds acc : List D) (ph : PH), (∀ d ∈ ds, okS k d) → acc.length + ds.length ≤ 1000 →
    compL (gN 1) tYesX (eCall (f__law_lists k) (aCons (eVar 1) aNil)) [a, none] ds acc ph = .ok (acc ++ ds.map (lstK k)) ph
  | [], acc, ph, _, _ => by simp
  | d :: ds, acc, ph, h, hl => by
    have hacc : acc.length < lim := by simp at hl; unfold lim; omega
    obtain ⟨v, e1, e2⟩ := ih d (h d List.mem_cons_self) ph
    rw [compL_cons]
    simp [e1, e2, hacc]
    rw [lists_comp ih a ds (acc ++ [lstK k d]) ph (fun e he => h e (List.mem_cons_of_mem _ he)) (by simp at hl ⊢; omega)]
    simp
theorem lists_gen : ∀ (k : Nat) (d : D), okS k d → ∀ ph, ∃ v, f__law_lists k [.d d] ph = .ok v ph ∧ v.dat = some (lstK k d)
  | 0, d, h, ph => h.elim
  | k + 1, d, h, ph => by
    have ih := lists_gen k
    cases d with
    | int i => exact ⟨.d (.int i), by simp [f__law_lists, isTy], rfl⟩
    | bl b => exact ⟨.d (.bl b), by simp [f__law_lists, isTy], rfl⟩
    | str x => exact ⟨.d (.str x), by simp [f__law_lists, isTy], rfl⟩
    | tup ds =>
      obtain ⟨h1, h2⟩ : ds.length ≤ 1000 ∧ ∀ e ∈ ds, okS k e := h
      have := lists_comp ih (some (.d (.tup ds))) ds [] ph h2 (by simpa using h1)
      exact ⟨.own (.lst (ds.map (lstK k))), by simp [f__law_lists, isTy, this], rfl⟩
    | lst ds =>
      obtain ⟨h1, h2⟩ : ds.length ≤ 1000 ∧ ∀ e ∈ ds, okS k e := h
      have := lists_comp ih (some (.d (.lst ds))) ds [] ph h2 (by simpa using h1)
      exact ⟨.own (.lst (ds.map (lstK k))), by simp [f__law_lists, isTy, this], rfl⟩
    | non => exact h.elim
    | dic _ _ => exact h.elim
    | fz _ => exact h.elim
def Knot.lrow : Knot → List D
  | .ask sp sd ls th => [.str wAsk, .int sp, .str (wSide sd), .lst (ID ls), .int th]
  | .ord a b x y z => [.str wOrder, .int a, .int b, .int x, .int y, .int z]
  | .say yes => [.str wSay, .bl yes]
def Knot.l (k : Knot) : D := .lst k.lrow
abbrev TL (T : Tree) : D := .lst (T.map Knot.l)
theorem map_tupK (k : Nat) (ls : List Int) : (ID ls).map (tupK k) = ID ls := by
  rw [List.map_map]
  apply List.map_congr_left
  intro x _
  cases k <;> rfl
theorem map_lstK (k : Nat) (ls : List Int) : (ID ls).map (lstK k) = ID ls := by
  rw [List.map_map]
  apply List.map_congr_left
  intro x _
  cases k <;> rfl
theorem okS_str {k : Nat} (x : List Nat) (h : (x.all fun c => decide (c < 0x110000)) = true) : okS (k + 1) (.str x) := h
theorem okS_int {k : Nat} (i : Int) : okS (k + 1) (.int i) := trivial
theorem okS_bl {k : Nat} (i : Bool) : okS (k + 1) (.bl i) := trivial
theorem okS_ids {k : Nat} {ls : List Int} (h : ls.length ≤ 1000) : okS (k + 2) (.tup (ID ls)) := ⟨by simpa using h, fun e he => by
  obtain ⟨n, _, rfl⟩ := List.mem_map.mp he
  trivial⟩
theorem okS_idl {k : Nat} {ls : List Int} (h : ls.length ≤ 1000) : okS (k + 2) (.lst (ID ls)) := ⟨by simpa using h, fun e he => by
  obtain ⟨n, _, rfl⟩ := List.mem_map.mp he
  trivial⟩
theorem okS_side {k : Nat} (sd : Bool) : okS (k + 1) (.str (wSide sd)) := by cases sd <;> exact okS_str _ rfl
def Knot.small : Knot → Prop
  | .ask _ _ ls _ => ls.length ≤ 10
  | _ => True
theorem knot_okS {x : Knot} (h : x.small) (k : Nat) : okS (k + 3) x.d ∧ okS (k + 3) x.l := by
  cases x with
  | ask sp sd ls th =>
    have hl : ls.length ≤ 1000 := Nat.le_trans h (by decide)
    refine ⟨⟨by simp [Knot.row], fun e he => ?_⟩, ⟨by simp [Knot.lrow], fun e he => ?_⟩⟩
    · simp only [Knot.row, List.mem_cons, List.not_mem_nil, or_false] at he
      rcases he with rfl | rfl | rfl | rfl | rfl
      · exact okS_str _ rfl
      · trivial
      · exact okS_side sd
      · exact okS_ids hl
      · trivial
    · simp only [Knot.lrow, List.mem_cons, List.not_mem_nil, or_false] at he
      rcases he with rfl | rfl | rfl | rfl | rfl
      · exact okS_str _ rfl
      · trivial
      · exact okS_side sd
      · exact okS_idl hl
      · trivial
  | ord a b x y z =>
    refine ⟨⟨by simp [Knot.row], fun e he => ?_⟩, ⟨by simp [Knot.lrow], fun e he => ?_⟩⟩
    · simp only [Knot.row, List.mem_cons, List.not_mem_nil, or_false] at he
      rcases he with rfl | rfl | rfl | rfl | rfl | rfl <;> first | trivial | exact okS_str _ rfl
    · simp only [Knot.lrow, List.mem_cons, List.not_mem_nil, or_false] at he
      rcases he with rfl | rfl | rfl | rfl | rfl | rfl <;> first | trivial | exact okS_str _ rfl
  | say y =>
    refine ⟨⟨by simp [Knot.row], fun e he => ?_⟩, ⟨by simp [Knot.lrow], fun e he => ?_⟩⟩
    · simp only [Knot.row, List.mem_cons, List.not_mem_nil, or_false] at he
      rcases he with rfl | rfl <;> first | trivial | exact okS_str _ rfl
    · simp only [Knot.lrow, List.mem_cons, List.not_mem_nil, or_false] at he
      rcases he with rfl | rfl <;> first | trivial | exact okS_str _ rfl
theorem tupK_knot (x : Knot) (k : Nat) : tupK (k + 3) x.d = x.d ∧ tupK (k + 3) x.l = x.d ∧ lstK (k + 3) x.d = x.l := by
  have e1 := map_tupK (k + 1)
  have e2 := map_lstK (k + 1)
  have a1 : ∀ i, tupK (k + 2) (.int i) = .int i := fun _ => rfl
  have a2 : ∀ i, tupK (k + 2) (.str i) = .str i := fun _ => rfl
  have a3 : ∀ i, tupK (k + 2) (.bl i) = .bl i := fun _ => rfl
  have b1 : ∀ i, lstK (k + 2) (.int i) = .int i := fun _ => rfl
  have b2 : ∀ i, lstK (k + 2) (.str i) = .str i := fun _ => rfl
  have b3 : ∀ i, lstK (k + 2) (.bl i) = .bl i := fun _ => rfl
  have c1 : ∀ ls, tupK (k + 2) (.tup (ID ls)) = .tup (ID ls) := fun ls => congrArg D.tup (e1 ls)
  have c2 : ∀ ls, tupK (k + 2) (.lst (ID ls)) = .tup (ID ls) := fun ls => congrArg D.tup (e1 ls)
  have c3 : ∀ ls, lstK (k + 2) (.tup (ID ls)) = .lst (ID ls) := fun ls => congrArg D.lst (e2 ls)
  cases x with
  | ask sp sd ls th =>
    refine ⟨?_, ?_, ?_⟩
    · show D.tup [_, _, _, _, _] = D.tup [_, _, _, _, _]
      rw [a2, a1, a2, c1, a1]
    · show D.tup [_, _, _, _, _] = D.tup [_, _, _, _, _]
      rw [a2, a1, a2, c2, a1]
    · show D.lst [_, _, _, _, _] = D.lst [_, _, _, _, _]
      rw [b2, b1, b2, c3, b1]
  | ord a b x y z => exact ⟨rfl, rfl, rfl⟩
  | say y => exact ⟨rfl, rfl, rfl⟩
/-- what a tree, a text, may be written as -/
structure TreeAs (T : Tree) (tr : D) : Prop where
  tof : ∀ ph, f_tuple_of 12 [.d tr] ph = .ok (.d (TD T)) ph
  ix : ∀ (k : Nat) (y : Bool), T[k]? = some (.say y) → ∃ e, dIx tr (.int k) = some (.d e) ∧ dIx e (.int 1) = some (.d (.bl y))
structure TextAs (ts : List Int) (tx : D) : Prop where
  tof : ∀ ph, f_tuple_of 12 [.d tx] ph = .ok (.d (.tup (ID ts))) ph
  t1 : Txt1 tx ts
theorem tree_okS {T : Tree} (h : ∀ x ∈ T, x.small) (hl : T.length ≤ 10) : okS 12 (TD T) ∧ okS 12 (TL T) :=
  ⟨⟨by simp; omega, fun e he => by obtain ⟨x, hx, rfl⟩ := List.mem_map.mp he; exact (knot_okS (h x hx) 8).1⟩, ⟨by simp; omega, fun e he => by obtain ⟨x, hx, rfl⟩ := List.mem_map.mp he; exact (knot_okS (h x hx) 8).2⟩⟩
theorem WF.small {T lv} (w : WF T lv) : ∀ x ∈ T, x.small := fun x hx => by
  obtain ⟨i, hi⟩ := List.getElem?_of_mem hx
  have := w.ok i x hi
  cases x with
  | ask sp sd ls th => exact this.2.2.2.2
  | _ => trivial
theorem as_td {T lv} (w : WF T lv) : TreeAs T (TD T) := ⟨fun ph => by
  rw [tupof_gen 12 _ (tree_okS w.small w.len).1]
  have : tupK 12 (TD T) = TD T := by
    show D.tup ((T.map Knot.d).map (tupK 11)) = _
    rw [List.map_map]
    congr 1
    exact List.map_congr_left fun x _ => (tupK_knot x 8).1
  rw [this], fun k y h => ⟨.tup [.str wSay, .bl y], by simp [atI_in (xs := T.map Knot.d) (i := (k : Int)) (j := k) (v := .tup [.str wSay, .bl y]) rfl (by rw [List.getElem?_map, h]; rfl)], rfl⟩⟩
theorem as_tl {T lv} (w : WF T lv) : TreeAs T (TL T) := ⟨fun ph => by
  rw [tupof_gen 12 _ (tree_okS w.small w.len).2]
  have : tupK 12 (TL T) = TD T := by
    show D.tup ((T.map Knot.l).map (tupK 11)) = _
    rw [List.map_map]
    congr 1
    exact List.map_congr_left fun x _ => (tupK_knot x 8).2.1
  rw [this], fun k y h => ⟨.lst [.str wSay, .bl y], by simp [atI_in (xs := T.map Knot.l) (i := (k : Int)) (j := k) (v := .lst [.str wSay, .bl y]) rfl (by rw [List.getElem?_map, h]; rfl)], rfl⟩⟩
theorem lists_tree {T lv} (w : WF T lv) (ph : PH) : f__law_lists 12 [.d (TD T)] ph = .ok (.own (TL T)) ph := by
  obtain ⟨v, e1, e2⟩ := lists_gen 12 (TD T) (tree_okS w.small w.len).1 ph
  have e3 : lstK 12 (TD T) = TL T := by
    show D.lst ((T.map Knot.d).map (lstK 11)) = _
    rw [List.map_map]
    congr 1
    exact List.map_congr_left fun x _ => (tupK_knot x 8).2.2
  have h1 : (T.map Knot.d).length ≤ 1000 ∧ ∀ e ∈ T.map Knot.d, okS 11 e := (tree_okS w.small w.len).1
  have := lists_comp (lists_gen 11) (some (.d (TD T))) (T.map Knot.d) [] ph h1.2 (by simpa using h1.1)
  rw [← e3]
  simp [f__law_lists] at this ⊢
  simp [isTy, this]
  show _ = D.lst ((T.map Knot.d).map (lstK 11))
  rw [List.map_map]
theorem text_t {ts : List Int} (hl : ts.length ≤ 100) : TextAs ts (.tup (ID ts)) := ⟨fun ph => tupof_tup 10 (atom_ints ts) (by simp; omega) ph, txt_tup ts⟩
theorem text_l {ts : List Int} (hl : ts.length ≤ 100) : TextAs ts (.lst (ID ts)) := ⟨fun ph => tupof_lst 10 (atom_ints ts) (by simp; omega) ph, txt_lst ts⟩
end Pyp

namespace Pyp
open PySem L2
/-! comprehensions that change nothing -/
theorem comp_gen {α : Type} (g : Gx) (t : Tx) (x : Ex) (env : Env) (f h : α → D) (p : α → Bool) (ee : α → Env) (ph : PH) : ∀ (as : List α) (acc : List D), (∀ a ∈ as, g (f a) env = some (ee a) ∧ t (ee a) ph = .ok (p a) ph ∧ (p a = true → ∃ v, x (ee a) ph = .ok v ph ∧ v.dat = some (h a))) → acc.length + as.length ≤ 100000 →
    compL g t x env (as.map f) acc ph = .ok (acc ++ (as.filter p).map h) ph
  | [], acc, _, _ => by simp
  | a :: as, acc, hh, hl => by
    have hacc : acc.length < lim := by simp at hl; unfold lim; omega
    obtain ⟨h1, h2, h3⟩ := hh a List.mem_cons_self
    rw [List.map_cons, compL_cons]
    cases hp : p a with
    | false =>
      simp [h1, h2, hp]
      exact comp_gen g t x env f h p ee ph as acc (fun b hb => hh b (List.mem_cons_of_mem _ hb)) (by simp at hl; omega)
    | true =>
      obtain ⟨v, e1, e2⟩ := h3 hp
      simp [h1, h2, hp, e1, e2, hacc]
      rw [comp_gen g t x env f h p ee ph as (acc ++ [h a]) (fun b hb => hh b (List.mem_cons_of_mem _ hb)) (by simp at hl ⊢; omega)]
      simp
def zi {α : Type} : Nat → List α → List (α × Nat)
  | _, [] => []
  | n, a :: as => (a, n) :: zi (n + 1) as
theorem enum_zi {α : Type} (f : α → D) : ∀ (as : List α) (n : Nat), enumD n (as.map f) = (zi n as).map fun q => .tup [.int (q.2 : Nat), f q.1]
  | [], _ => rfl
  | a :: as, n => by
    show D.tup [.int n, f a] :: enumD (n + 1) (as.map f) = _
    rw [enum_zi f as (n + 1)]; rfl
theorem zi_len {α : Type} : ∀ (as : List α) (n : Nat), (zi n as).length = as.length
  | [], _ => rfl
  | a :: as, n => by simp [zi, zi_len as]
theorem zi_mem {α : Type} : ∀ (as : List α) (n : Nat) (q : α × Nat), q ∈ zi n as → n ≤ q.2 ∧ as[q.2 - n]? = some q.1
  | [], _, q, h => nomatch h
  | a :: as, n, q, h => by
    rcases List.mem_cons.mp h with rfl | h
    · exact ⟨Nat.le_refl _, by simp⟩
    · obtain ⟨h1, h2⟩ := zi_mem as (n + 1) q h
      refine ⟨by omega, ?_⟩
      have e : q.2 - n = (q.2 - (n + 1)) + 1 := by omega
      rw [e]; simpa using h2
theorem zi_fst {α β : Type} (f : α → β) : ∀ (as : List α) (n : Nat), (zi n as).map (fun q => f q.1) = as.map f
  | [], _ => rfl
  | a :: as, n => by simp [zi, zi_fst f as]
theorem filter_t {α : Type} (l : List α) : (l.filter fun _ => true) = l := List.filter_eq_self.mpr fun _ _ => rfl
/-! what a run leaves -/
def Row.ask (r : Row) : D := .tup [.str wAsk, .int r.sp, .str (wSide r.sd), .tup (ID r.ls), .int r.th]
def isAsk (T : Tree) (k : Nat) : Bool := match T[k]? with
  | some (.ask _ _ _ _) => true
  | _ => false
def Knot.isA : Knot → Bool
  | .ask _ _ _ _ => true
  | _ => false
theorem isAsk_at {T : Tree} {k : Nat} {x : Knot} (h : T[k]? = some x) : isAsk T k = x.isA := by
  unfold isAsk
  rw [h]
  cases x <;> rfl
def kD (T : Tree) (k : Nat) : D := match T[k]? with
  | some x => x.d
  | none => .non
structure Trace (T : Tree) (ts : List Int) (s : RS) : Prop where
  asks : (s.pre.filter (isAsk T)).map (kD T) = s.rows.map Row.ask
  spots : s.spots = [0, (ts.length : Int) + 1] ++ s.rows.map Row.far
  row : ∀ (i : Nat) (r : Row), s.rows[i]? = some r → r.sp < i + 2 ∧ s.spots[r.sp]? = some r.near ∧ r.far = fnd r.sd ts r.near r.ls ∧ (0 ≤ r.near ∧ r.near ≤ ts.length + 1) ∧ r.ls.length ≤ 10
  ks : ∀ k ∈ s.pre, k < T.length
theorem Trace.stp {T lv ts s} (w : WF T lv) (o : Ok T lv ts s) (t : Trace T ts s) (hs : ∀ y, T[s.k]? ≠ some (.say y)) : Trace T ts (stp T ts s) := by
  obtain ⟨x, hk⟩ : ∃ x, T[s.k]? = some x := ⟨_, List.getElem?_eq_getElem o.klt⟩
  have kw := w.ok _ _ hk
  cases x with
  | say y => exact absurd hk (hs y)
  | ask sp sd ls th =>
    obtain ⟨h1, h2, h3, h4, h5⟩ := kw
    have hsp : sp < s.spots.length := by rw [o.lv_]; exact h1
    have e : Pyp.stp T ts s = ⟨th, s.pre ++ [s.k], s.spots ++ [fnd sd ts (s.spots.getD sp 0) ls], s.rows ++ [⟨sp, sd, s.spots.getD sp 0, fnd sd ts (s.spots.getD sp 0) ls, ls, th⟩]⟩ := by unfold Pyp.stp; rw [hk]
    rw [e]
    have r01 := getD_rng hsp o.rng
    have gp := getD_at hsp
    generalize s.spots.getD sp 0 = P at *
    have q1 : isAsk T s.k = true := by unfold isAsk; rw [hk]
    have q2 : kD T s.k = Knot.d (.ask sp sd ls th) := by unfold kD; rw [hk]
    refine ⟨?_, ?_, fun i r hr => ?_, fun k hk' => ?_⟩
    · show ((s.pre ++ [s.k]).filter (isAsk T)).map (kD T) = (s.rows ++ [_]).map Row.ask
      rw [List.filter_append, List.map_append, t.asks, List.map_append]
      simp [q1, q2, Row.ask, Knot.d, Knot.row]
    · show s.spots ++ [_] = [0, (ts.length : Int) + 1] ++ (s.rows ++ [_]).map Row.far
      rw [List.map_append, ← List.append_assoc, ← t.spots]
      rfl
    · show r.sp < i + 2 ∧ (s.spots ++ [_])[r.sp]? = some r.near ∧ _
      have hr' : (s.rows ++ [(⟨sp, sd, P, fnd sd ts P ls, ls, th⟩ : Row)])[i]? = some r := hr
      by_cases hi : i < s.rows.length
      · rw [List.getElem?_append_left hi] at hr'
        obtain ⟨a1, a2, a3⟩ := t.row i r hr'
        refine ⟨a1, ?_, a3⟩
        rw [List.getElem?_append_left (by rw [o.sl]; omega)]
        exact a2
      · rw [List.getElem?_append_right (by omega)] at hr'
        have hi0 : i - s.rows.length = 0 := by
          have := (List.getElem?_eq_some_iff.mp hr').1
          simp at this; omega
        rw [hi0] at hr'
        have : r = ⟨sp, sd, P, fnd sd ts P ls, ls, th⟩ := by simpa using hr'.symm
        subst this
        refine ⟨by have := o.sl; show sp < i + 2; omega, ?_, rfl, r01, h5⟩
        rw [List.getElem?_append_left hsp]
        exact gp
    · rcases List.mem_append.mp hk' with h | h
      · exact t.ks k h
      · have : k = s.k := by simpa using h
        rw [this]; exact o.klt
  | ord a b x y z =>
    have e : Pyp.stp T ts s = ⟨ordTo (s.spots.getD a 0) (s.spots.getD b 0) x y z, s.pre ++ [s.k], s.spots, s.rows⟩ := by unfold Pyp.stp; rw [hk]
    rw [e]
    have q1 : isAsk T s.k = false := by unfold isAsk; rw [hk]
    refine ⟨?_, t.spots, t.row, fun k hk' => ?_⟩
    · show ((s.pre ++ [s.k]).filter (isAsk T)).map (kD T) = s.rows.map Row.ask
      rw [List.filter_append, List.map_append, t.asks]
      simp [q1]
    · rcases List.mem_append.mp hk' with h | h
      · exact t.ks k h
      · have : k = s.k := by simpa using h
        rw [this]; exact o.klt
theorem runS_trace {T lv ts} (w : WF T lv) : ∀ (m : Nat) (s : RS), Ok T lv ts s → Trace T ts s → Trace T ts (runS T ts m s)
  | 0, s, o, t => t
  | m + 1, s, o, t => by
    rcases say_dec T s.k with ⟨y, hk⟩ | hs
    · rw [runS_say hk]; exact t
    · rw [runS_stp hs]
      exact runS_trace w m _ (o.stp w hs).1 (t.stp w o hs)
theorem fin_trace {T lv} (w : WF T lv) (ts : List Int) : Trace T ts (fin T ts) := runS_trace w 10 _ (s0_ok w ts) ⟨rfl, rfl, fun i r h => by simp [s0] at h, fun k h => nomatch h⟩
/-! the program's run -/
def tGo : Tx := (tB (eBin dNe (eBin dIx (eBin dIx (eVar 2) (eBin dIx (eVar 4) (eNeg (eC (.int 1))))) (eC (.int 0))) (eC (.str [115, 97, 121]))))
def bGo : Sx := (sSeq (sSet 6 (eBin dIx (eVar 2) (eBin dIx (eVar 4) (eNeg (eC (.int 1))))))
    (sIf (tB (eBin dEq (eBin dIx (eVar 6) (eC (.int 0))) (eC (.str [97, 115, 107]))))
      (sSeq (sMut 5 fApp (aCons (eCall f_found (aCons (eVar 3) (aCons (eBin dIx (eVar 5) (eBin dIx (eVar 6) (eC (.int 1)))) (aCons (eBin dIx (eVar 6) (eC (.int 2))) (aCons (eBin dIx (eVar 6) (eC (.int 3))) aNil))))) aNil))
      (sMut 4 fApp (aCons (eBin dIx (eVar 6) (eC (.int 4))) aNil)))
      (sSeq (sPar [7, 8] (aCons (eBin dIx (eVar 5) (eBin dIx (eVar 6) (eC (.int 1)))) (aCons (eBin dIx (eVar 5) (eBin dIx (eVar 6) (eC (.int 2)))) aNil)))
      (sMut 4 fApp (aCons (eIf (tB (eBin dLt (eVar 7) (eVar 8))) (eBin dIx (eVar 6) (eC (.int 3))) (eIf (tB (eBin dEq (eVar 7) (eVar 8))) (eBin dIx (eVar 6) (eC (.int 4))) (eBin dIx (eVar 6) (eC (.int 5))))) aNil)))))
def E9 (o0 o1 : Option Val) (T : Tree) (ts : List Int) (s : RS) (o6 o7 o8 : Option Val) : Env := [o0, o1, some (.d (TD T)), some (.d (.tup (ID ts))), some (.own (.lst (ND s.way))), some (.own (.lst (ID s.spots))), o6, o7, o8]
theorem atI_way (l : List D) (v : D) : atI (l ++ [v]) (-1) = some v := atI_last
theorem go_step {T lv ts s} (w : WF T lv) (o : Ok T lv ts s) (hl : ts.length ≤ 100) (hs : ∀ y, T[s.k]? ≠ some (.say y)) (o0 o1 o6 o7 o8 : Option Val) (ph : PH) :
    ∃ p6 p7 p8, tGo (E9 o0 o1 T ts s o6 o7 o8) ph = .ok true ph ∧ bGo (E9 o0 o1 T ts s o6 o7 o8) ph = .nx (E9 o0 o1 T ts (stp T ts s) p6 p7 p8) ph := by
  obtain ⟨x, hk⟩ : ∃ x, T[s.k]? = some x := ⟨_, List.getElem?_eq_getElem o.klt⟩
  have kw := w.ok _ _ hk
  have hS : s.spots.length < 1000000 := by have := o.sl; have := o.rl; have := o.klt; have := w.len; omega
  have hP : s.pre.length + 1 < 1000000 := by have := o.pl; have := o.klt; have := w.len; omega
  cases x with
  | say y => exact absurd hk (hs y)
  | ask sp sd ls th =>
    obtain ⟨h1, h2, h3, h4, h5⟩ := kw
    have hsp : sp < s.spots.length := by rw [o.lv_]; exact h1
    have ha : atI (T.map Knot.d) (s.k : Int) = some (.tup [.str wAsk, .int sp, .str (wSide sd), .tup (ID ls), .int th]) := atI_in (j := s.k) rfl (by rw [List.getElem?_map, hk]; rfl)
    have hn : atI (ID s.spots) (sp : Int) = some (.int (s.spots.getD sp 0)) := atI_in (j := sp) rfl (by rw [List.getElem?_map, getD_at hsp]; rfl)
    obtain ⟨r0, r1⟩ := getD_rng hsp o.rng
    have hf := fun ph => found_ok (by omega) r0 r1 sd ls ph
    have e : stp T ts s = ⟨th, s.pre ++ [s.k], s.spots ++ [fnd sd ts (s.spots.getD sp 0) ls], s.rows ++ [⟨sp, sd, s.spots.getD sp 0, fnd sd ts (s.spots.getD sp 0) ls, ls, th⟩]⟩ := by unfold Pyp.stp; rw [hk]
    rw [e]
    generalize s.spots.getD sp 0 = P at *
    refine ⟨some (.d (.tup [.str wAsk, .int sp, .str (wSide sd), .tup (ID ls), .int th])), o7, o8, by simp [tGo, E9, RS.way, atI_way, ha], ?_⟩
    simp [bGo, E9, RS.way, atI_way, ha, at3, at4, hn, hf, sMut, fApp, hS, hP, lim]
  | ord a b x y z =>
    obtain ⟨h1, h2, h3, h4, h5⟩ := kw
    have hsa : a < s.spots.length := by rw [o.lv_]; exact h1
    have hsb : b < s.spots.length := by rw [o.lv_]; exact h2
    have ha : atI (T.map Knot.d) (s.k : Int) = some (.tup [.str wOrder, .int a, .int b, .int x, .int y, .int z]) := atI_in (j := s.k) rfl (by rw [List.getElem?_map, hk]; rfl)
    have hn : atI (ID s.spots) (a : Int) = some (.int (s.spots.getD a 0)) := atI_in (j := a) rfl (by rw [List.getElem?_map, getD_at hsa]; rfl)
    have hm : atI (ID s.spots) (b : Int) = some (.int (s.spots.getD b 0)) := atI_in (j := b) rfl (by rw [List.getElem?_map, getD_at hsb]; rfl)
    have e : stp T ts s = ⟨ordTo (s.spots.getD a 0) (s.spots.getD b 0) x y z, s.pre ++ [s.k], s.spots, s.rows⟩ := by unfold Pyp.stp; rw [hk]
    rw [e]
    generalize s.spots.getD a 0 = P at *
    generalize s.spots.getD b 0 = Q at *
    refine ⟨some (.d (.tup [.str wOrder, .int a, .int b, .int x, .int y, .int z])), some (.d (.int P)), some (.d (.int Q)), by simp [tGo, E9, RS.way, atI_way, ha], ?_⟩
    by_cases c1 : P < Q
    · simp [bGo, E9, RS.way, atI_way, ha, at3, at4, at5, hn, hm, sMut, fApp, hP, lim, ordTo, c1]
    · by_cases c2 : P = Q
      · simp [bGo, E9, RS.way, atI_way, ha, at3, at4, at5, hn, hm, sMut, fApp, hP, lim, ordTo, c1, c2]
      · simp [bGo, E9, RS.way, atI_way, ha, at3, at4, at5, hn, hm, sMut, fApp, hP, lim, ordTo, c1, c2]
theorem go_say {T ts s y} (hk : T[s.k]? = some (.say y)) (o0 o1 o6 o7 o8 : Option Val) (ph : PH) : tGo (E9 o0 o1 T ts s o6 o7 o8) ph = .ok false ph := by
  have ha : atI (T.map Knot.d) (s.k : Int) = some (.tup [.str wSay, .bl y]) := atI_in (j := s.k) rfl (by rw [List.getElem?_map, hk]; rfl)
  simp [tGo, E9, RS.way, atI_way, ha]
theorem go_loop {T lv ts} (w : WF T lv) (hl : ts.length ≤ 100) (o0 o1 : Option Val) : ∀ (m : Nat) (s : RS) (F : Nat) (o6 o7 o8 : Option Val) (ph : PH), Ok T lv ts s → T.length ≤ m + s.k → m < F →
    ∃ p6 p7 p8, sWhile tGo bGo F (E9 o0 o1 T ts s o6 o7 o8) ph = .nx (E9 o0 o1 T ts (runS T ts m s) p6 p7 p8) ph
  | 0, s, F, o6, o7, o8, ph, o, hm, hF => absurd o.klt (by omega)
  | m + 1, s, 0, o6, o7, o8, ph, o, hm, hF => absurd hF (by omega)
  | m + 1, s, F + 1, o6, o7, o8, ph, o, hm, hF => by
    rcases say_dec T s.k with ⟨y, hk⟩ | hs
    · refine ⟨o6, o7, o8, ?_⟩
      rw [sWhile_succ, go_say hk, runS_say hk]
      rfl
    · obtain ⟨o', hlt⟩ := o.stp w hs
      obtain ⟨q6, q7, q8, e1, e2⟩ := go_step w o hl hs o0 o1 o6 o7 o8 ph
      obtain ⟨p6, p7, p8, e3⟩ := go_loop w hl o0 o1 m (stp T ts s) F q6 q7 q8 ph o' (by omega) (by omega)
      refine ⟨p6, p7, p8, ?_⟩
      rw [sWhile_succ, e1, runS_stp hs]
      show (match bGo (E9 o0 o1 T ts s o6 o7 o8) ph with
        | .nx env2 ph2 => sWhile tGo bGo F env2 ph2
        | .ct env2 ph2 => sWhile tGo bGo F env2 ph2
        | .bk env2 ph2 => .nx env2 ph2
        | o => o) = _
      rw [e2]
      exact e3
theorem gone_ok {T lv ts} (w : WF T lv) (hl : ts.length ≤ 100) {tr tx : D} (ht : TreeAs T tr) (hx : TextAs ts tx) (ph : PH) : f_gone [.d tr, .d tx] ph = .ok (.d (.tup [.tup (ND (fin T ts).way), .tup (ID (fin T ts).spots)])) ph := by
  obtain ⟨p6, p7, p8, e⟩ := go_loop w hl (some (.d tr)) (some (.d tx)) 10 (s0 ts) 100000 none none none ph (s0_ok w ts) (by have := w.len; omega) (by decide)
  have e' : sWhile tGo bGo 100000 [some (.d tr), some (.d tx), some (.d (TD T)), some (.d (.tup (ID ts))), some (.own (.lst [.int 0])), some (.own (.lst [.int 0, .int ((ts.length : Int) + 1)])), none, none, none] ph = .nx (E9 (some (.d tr)) (some (.d tx)) T ts (fin T ts) p6 p7 p8) ph := e
  have key : f_gone = runF 9 (sSeq (sPar [2, 3] (aCons (eCall (f_tuple_of 12) (aCons (eVar 0) aNil)) (aCons (eCall (f_tuple_of 12) (aCons (eVar 1) aNil)) aNil)))
    (sSeq (sParV 4 5 (eLst (aCons (eC (.int 0)) aNil)) (eLst (aCons (eC (.int 0)) (aCons (eBin dAdd (eB bLen (aCons (eVar 3) aNil)) (eC (.int 1))) aNil))))
    (sSeq (sWhile tGo bGo 100000)
    (sRet (eTup (aCons (eB bTup (aCons (eVar 4) aNil)) (aCons (eB bTup (aCons (eVar 5) aNil)) aNil))))))) := rfl
  rw [key]
  simp [ht.tof, hx.tof, lim, e']
  simp [E9, lim]
theorem run_ok {T lv ts} (w : WF T lv) (hl : ts.length ≤ 100) {tr tx : D} (ht : TreeAs T tr) (hx : TextAs ts tx) (ph : PH) : f_run [.d tr, .d tx] ph = .ok (.d (.tup [.tup (ID (fin T ts).spots), .bl (yesAt T (fin T ts).k)])) ph := by
  have g := gone_ok w hl ht hx ph
  obtain ⟨o, hk⟩ := fin_ok w ts
  obtain ⟨e, i1, i2⟩ := ht.ix _ _ hk
  simp [f_run, g, RS.way, atI_way, i1, i2, lim]
theorem way_ok {T lv ts} (w : WF T lv) (hl : ts.length ≤ 100) {tr tx : D} (ht : TreeAs T tr) (hx : TextAs ts tx) (ph : PH) : f_way_of [.d tr, .d tx] ph = .ok (.d (.tup (ND (fin T ts).way))) ph := by
  have g := gone_ok w hl ht hx ph
  simp [f_way_of, g]
theorem answer_ok {T lv ts} (w : WF T lv) (hl : ts.length ≤ 100) {tr tx : D} (ht : TreeAs T tr) (hx : TextAs ts tx) (ph : PH) : f_answer [.d tr, .d tx] ph = .ok (.d (.bl (yesAt T (fin T ts).k))) ph := by
  have g := run_ok w hl ht hx ph
  simp [f_answer, g]
/-- the asks of a way -/
theorem asks_way {T lv} (w : WF T lv) (ts : List Int) : ((fin T ts).way.filter (isAsk T)).map (kD T) = (fin T ts).rows.map Row.ask := by
  obtain ⟨o, hk⟩ := fin_ok w ts
  have t := fin_trace w ts
  have q1 : isAsk T (fin T ts).k = false := by unfold isAsk; rw [hk]
  unfold RS.way
  rw [List.filter_append, List.map_append, t.asks]
  simp [q1]
theorem way_lt {T lv} (w : WF T lv) (ts : List Int) : ∀ k ∈ (fin T ts).way, k < T.length := fun k h => by
  rcases List.mem_append.mp h with h | h
  · exact (fin_trace w ts).ks k h
  · have : k = (fin T ts).k := by simpa using h
    rw [this]; exact (fin_ok w ts).1.klt
theorem gone_over_ok {T lv ts} (w : WF T lv) (hl : ts.length ≤ 100) {tr tx : D} (ht : TreeAs T tr) (hx : TextAs ts tx) (ph : PH) : f_gone_over [.d tr, .d tx] ph = .ok (.d (.tup ((fin T ts).rows.map Row.e))) ph := by
  have g1 := run_ok w hl ht hx ph
  have g2 := way_ok w hl ht hx ph
  have t := fin_trace w ts
  have o := (fin_ok w ts).1
  have hw : (fin T ts).way.length ≤ 100 := by
    have := o.pl; have := o.klt; have := w.len
    unfold RS.way; simp; omega
  have hr : (fin T ts).rows.length ≤ 100 := by have := o.rl; have := o.klt; have := w.len; omega
  have c1 := comp_gen (gN 6) (tB (eBin dEq (eBin dIx (eBin dIx (eVar 2) (eVar 6)) (eC (.int 0))) (eC (.str [97, 115, 107])))) (eBin dIx (eVar 2) (eVar 6))
    [some (.d tr), some (.d tx), some (.d (TD T)), some (.d (.tup (ID (fin T ts).spots))), some (.d (.bl (yesAt T (fin T ts).k))), none, none, none, none, none, none] (fun k : Nat => D.int (k : Int)) (kD T) (isAsk T)
    (fun k => [some (.d tr), some (.d tx), some (.d (TD T)), some (.d (.tup (ID (fin T ts).spots))), some (.d (.bl (yesAt T (fin T ts).k))), none, some (.d (.int (k : Int))), none, none, none, none]) ph (fin T ts).way [] (fun k hk => by
      obtain ⟨x, hx⟩ : ∃ x, T[k]? = some x := ⟨_, List.getElem?_eq_getElem (way_lt w ts k hk)⟩
      have ha : atI (T.map Knot.d) (k : Int) = some x.d := atI_in (j := k) rfl (by rw [List.getElem?_map, hx]; rfl)
      have q : kD T k = x.d := by unfold kD; rw [hx]
      have q' : isAsk T k = x.isA := isAsk_at hx
      refine ⟨rfl, ?_, fun _ => ⟨.d x.d, by simp [ha], by rw [q]; rfl⟩⟩
      rw [q']
      cases x with
      | ask a b c d =>
        have ha' : atI (T.map Knot.d) (k : Int) = some (.tup [.str wAsk, .int a, .str (wSide b), .tup (ID c), .int d]) := ha
        simp [ha', Knot.isA]
      | ord a b c d e =>
        have ha' : atI (T.map Knot.d) (k : Int) = some (.tup [.str wOrder, .int a, .int b, .int c, .int d, .int e]) := ha
        simp [ha', Knot.isA]
      | say a =>
        have ha' : atI (T.map Knot.d) (k : Int) = some (.tup [.str wSay, .bl a]) := ha
        simp [ha', Knot.isA]) (by simp; omega)
  rw [asks_way w ts] at c1
  have c2 := comp_gen (gT 2 (gsCons (gN 7) (gsCons (gT 5 (gsCons (gN 4) (gsCons (gN 8) (gsCons (gN 9) (gsCons (gN 10) (gsCons (gN 4) gsNil)))))) gsNil))) tYesX
    (eTup (aCons (eVar 9) (aCons (eBin dIx (eVar 3) (eVar 8)) (aCons (eBin dIx (eVar 3) (eBin dAdd (eVar 7) (eC (.int 2)))) (aCons (eVar 10) aNil)))))
    [some (.d tr), some (.d tx), some (.d (TD T)), some (.d (.tup (ID (fin T ts).spots))), none, some (.d (.lst ((fin T ts).rows.map Row.ask))), none, none, none, none, none]
    (fun q : Row × Nat => .tup [.int (q.2 : Nat), q.1.ask]) (fun q => q.1.e) (fun _ => true)
    (fun q => [some (.d tr), some (.d tx), some (.d (TD T)), some (.d (.tup (ID (fin T ts).spots))), some (.d (.int q.1.th)), some (.d (.lst ((fin T ts).rows.map Row.ask))), none, some (.d (.int (q.2 : Nat))), some (.d (.int q.1.sp)), some (.d (.str (wSide q.1.sd))), some (.d (.tup (ID q.1.ls)))])
    ph (zi 0 (fin T ts).rows) [] (fun q hq => by
      obtain ⟨h1, h2⟩ := zi_mem _ _ _ hq
      have h2' : (fin T ts).rows[q.2]? = some q.1 := h2
      obtain ⟨a1, a2, a3, a4, a5⟩ := t.row _ _ h2'
      have b1 : atI (ID (fin T ts).spots) (q.1.sp : Int) = some (.int q.1.near) := atI_in (j := q.1.sp) rfl (by rw [List.getElem?_map, a2]; rfl)
      have b2 : (fin T ts).spots[q.2 + 2]? = some q.1.far := by
        rw [t.spots]
        show ((0 : Int) :: ((ts.length : Int) + 1) :: (fin T ts).rows.map Row.far)[q.2 + 2]? = _
        simp [h2']
      have b3 : atI (ID (fin T ts).spots) ((q.2 : Int) + 2) = some (.int q.1.far) := atI_in (j := q.2 + 2) rfl (by rw [List.getElem?_map, b2]; rfl)
      refine ⟨rfl, rfl, fun _ => ⟨.d q.1.e, ?_, rfl⟩⟩
      simp [b1, b3, lim, Row.e]) (by rw [zi_len]; simp; omega)
  rw [filter_t, zi_fst Row.e, ← enum_zi] at c2
  simp at c1 c2
  simp [f_gone_over, ht.tof, g1, g2, lim, c1, c2]
end Pyp

namespace Pyp
open PySem L2
/-! a single change -/
def beh (ts : List Int) : Chn → List Int
  | .put n c => ts.take n ++ [c] ++ ts.drop n
  | .drop n => ts.take n ++ ts.drop (n + 1)
  | .turn n c => ts.take n ++ [c] ++ ts.drop (n + 1)
def Chn.ok (len : Nat) : Chn → Bool
  | .put n _ => decide (n ≤ len)
  | .drop n => decide (n < len)
  | .turn n _ => decide (n < len)
def mv : Chn → Int → Option Int
  | .put n _, p => some (if (n : Int) + 1 ≤ p then p + 1 else p)
  | .drop n, p => if p = (n : Int) + 1 then none else some (if (n : Int) + 1 < p then p - 1 else p)
  | .turn _ _, p => some p
def Chn.at : Chn → Nat
  | .put n _ => n
  | .drop n => n
  | .turn n _ => n
/-- as the law looks -/
def tchL (ts : List Int) (c : Chn) (sd : Bool) (near far : Int) (ls : List Int) : Bool := match mv c near with
  | none => (match mv c far with
    | none => true
    | some f => !(f == fnd sd (beh ts c) (if sd then (c.at : Int) else (c.at : Int) + 1) ls))
  | some q => (match mv c far with
    | none => true
    | some f => !(f == fnd sd (beh ts c) q ls))
/-- as the program looks -/
def tchP (c : Chn) (near far : Int) (ls : List Int) : Bool := match c with
  | .put n x => decide (min near far < (n : Int) + 1) && decide ((n : Int) + 1 ≤ max near far) && inL ls x
  | .drop n => (n : Int) + 1 == far
  | .turn n x => if (n : Int) + 1 == far then !inL ls x else decide (min near far < (n : Int) + 1) && decide ((n : Int) + 1 < max near far) && inL ls x
def bools : Nat → List (List Int)
  | 0 => [[]]
  | n + 1 => (bools n).flatMap fun b => [1 :: b, 0 :: b]
def chs2 (n : Nat) : List Chn := (List.range (n + 1)).flatMap (fun i => [.put i 0, .put i 1]) ++ (List.range n).flatMap (fun i => [.drop i, .turn i 0, .turn i 1])
def heart1 (n : Nat) : Bool := (bools n).all fun ts => [true, false].all fun sd => (List.range (n + 2)).all fun p => let f := fnd sd ts (p : Int) [1]; (chs2 n).all fun c => tchL ts c sd (p : Int) f [1] == tchP c (p : Int) f [1]
theorem heart_0 : heart1 0 = true := by decide +kernel
theorem heart_1 : heart1 1 = true := by decide +kernel
theorem heart_2 : heart1 2 = true := by decide +kernel
theorem heart_3 : heart1 3 = true := by decide +kernel
theorem heart_4 : heart1 4 = true := by decide +kernel
theorem heart_5 : heart1 5 = true := by decide +kernel

/-! letters as yes and no -/
def yn (ls : List Int) (t : Int) : Int := if inL ls t = true then 1 else 0
theorem inL_yn (ls : List Int) (t : Int) : inL [1] (yn ls t) = inL ls t := by
  unfold yn
  cases inL ls t <;> rfl
theorem nx_yn (ls : List Int) : ∀ (ts : List Int) (i p : Int), nx [1] (ts.map (yn ls)) i p = nx ls ts i p
  | [], i, p => rfl
  | t :: ts, i, p => by
    rw [List.map_cons, nx, nx, inL_yn, nx_yn ls ts (i + 1) p]
theorem lastL_yn (ls : List Int) : ∀ (ts : List Int) (i p acc : Int), lastL [1] (ts.map (yn ls)) i p acc = lastL ls ts i p acc
  | [], i, p, acc => rfl
  | t :: ts, i, p, acc => by
    rw [List.map_cons, lastL, lastL, inL_yn, lastL_yn ls ts (i + 1) p]
theorem fnd_yn (sd : Bool) (ls ts : List Int) (p : Int) : fnd sd (ts.map (yn ls)) p [1] = fnd sd ts p ls := by
  cases sd with
  | true => exact nx_yn ls ts 1 p
  | false => exact lastL_yn ls ts 1 p 0
def Chn.yn (ls : List Int) : Chn → Chn
  | .put n c => .put n (Pyp.yn ls c)
  | .drop n => .drop n
  | .turn n c => .turn n (Pyp.yn ls c)
theorem beh_yn (ls ts : List Int) (c : Chn) : beh (ts.map (yn ls)) (c.yn ls) = (beh ts c).map (yn ls) := by
  cases c <;> simp [beh, Chn.yn, List.map_take, List.map_drop]
theorem mv_yn (ls : List Int) (c : Chn) (p : Int) : mv (c.yn ls) p = mv c p := by cases c <;> rfl
theorem at_yn (ls : List Int) (c : Chn) : (c.yn ls).at = c.at := by cases c <;> rfl
theorem tchL_yn (ls ts : List Int) (c : Chn) (sd : Bool) (near far : Int) : tchL (ts.map (yn ls)) (c.yn ls) sd near far [1] = tchL ts c sd near far ls := by
  unfold tchL
  rw [mv_yn, mv_yn, at_yn, beh_yn]
  simp only [fnd_yn]
theorem tchP_yn (ls : List Int) (c : Chn) (near far : Int) : tchP (c.yn ls) near far [1] = tchP c near far ls := by
  cases c <;> simp only [tchP, Chn.yn, inL_yn]
theorem mem_bools (ls : List Int) : ∀ ts : List Int, ts.map (yn ls) ∈ bools ts.length
  | [] => by simp [bools]
  | t :: ts => by
    have := mem_bools ls ts
    rw [List.map_cons, List.length_cons, bools, List.mem_flatMap]
    refine ⟨_, this, ?_⟩
    unfold yn
    split <;> simp
theorem mem_chs2 (ls : List Int) {n : Nat} {c : Chn} (h : c.ok n = true) : c.yn ls ∈ chs2 n := by
  unfold chs2
  rw [List.mem_append]
  cases c with
  | put i x =>
    left
    have h' : i ≤ n := of_decide_eq_true h
    rw [List.mem_flatMap]
    refine ⟨i, List.mem_range.mpr (by omega), ?_⟩
    simp only [Chn.yn, yn]
    split <;> simp
  | drop i =>
    right
    have h' : i < n := of_decide_eq_true h
    rw [List.mem_flatMap]
    exact ⟨i, List.mem_range.mpr h', by simp [Chn.yn]⟩
  | turn i x =>
    right
    have h' : i < n := of_decide_eq_true h
    rw [List.mem_flatMap]
    refine ⟨i, List.mem_range.mpr h', ?_⟩
    simp only [Chn.yn, yn]
    split <;> simp
theorem heart_n {n : Nat} (h : n ≤ 5) : heart1 n = true := by
  match n, h with
  | 0, _ => exact heart_0
  | 1, _ => exact heart_1
  | 2, _ => exact heart_2
  | 3, _ => exact heart_3
  | 4, _ => exact heart_4
  | 5, _ => exact heart_5
theorem heart {ts : List Int} (hl : ts.length ≤ 5) {c : Chn} (hc : c.ok ts.length = true) (sd : Bool) {near : Int} (h0 : 0 ≤ near) (h1 : near ≤ ts.length + 1) (ls : List Int) :
    tchL ts c sd near (fnd sd ts near ls) ls = tchP c near (fnd sd ts near ls) ls := by
  have h := heart_n hl
  unfold heart1 at h
  rw [List.all_eq_true] at h
  have h2 := h _ (mem_bools ls ts)
  rw [List.all_eq_true] at h2
  have h3 := h2 sd (by cases sd <;> simp)
  rw [List.all_eq_true] at h3
  have h4 := h3 near.toNat (List.mem_range.mpr (by omega))
  have h5 := (List.all_eq_true.mp h4) _ (mem_chs2 ls hc)
  have e : (near.toNat : Int) = near := by omega
  rw [e, fnd_yn, tchL_yn, tchP_yn] at h5
  exact eq_of_beq h5
/-! lengths, ends -/
theorem beh_len {ts : List Int} {c : Chn} (hc : c.ok ts.length = true) : ((beh ts c).length : Int) = match c with
    | .put _ _ => (ts.length : Int) + 1
    | .drop _ => (ts.length : Int) - 1
    | .turn _ _ => (ts.length : Int) := by
  cases c with
  | put n x =>
    have h' : n ≤ ts.length := of_decide_eq_true hc
    simp [beh]; omega
  | drop n =>
    have h' : n < ts.length := of_decide_eq_true hc
    simp [beh]; omega
  | turn n x =>
    have h' : n < ts.length := of_decide_eq_true hc
    simp [beh]; omega
theorem beh_le {ts : List Int} {c : Chn} (hc : c.ok ts.length = true) : (beh ts c).length ≤ ts.length + 1 := by
  have := beh_len hc
  cases c <;> simp at this <;> omega
theorem mv_zero (c : Chn) : mv c 0 = some 0 := by
  cases c with
  | put n x => first | (simp [mv]; done) | (simp [mv]; omega)
  | drop n => first | (simp [mv]; done) | (simp [mv]; omega)
  | turn n x => rfl
theorem mv_end {ts : List Int} {c : Chn} (hc : c.ok ts.length = true) : mv c ((ts.length : Int) + 1) = some (((beh ts c).length : Int) + 1) := by
  have := beh_len hc
  cases c with
  | put n x =>
    have h' : n ≤ ts.length := of_decide_eq_true hc
    simp only at this
    simp only [mv]
    rw [if_pos (by omega), this]
  | drop n =>
    have h' : n < ts.length := of_decide_eq_true hc
    simp only at this
    simp only [mv]
    rw [if_neg (by omega), if_pos (by omega), this]
    congr 1; omega
  | turn n x =>
    simp only at this
    simp only [mv]
    rw [this]
theorem mv_lt {c : Chn} {p q p' q' : Int} (hp : mv c p = some p') (hq : mv c q = some q') : (p < q ↔ p' < q') ∧ (p = q ↔ p' = q') := by
  cases c with
  | put n x =>
    simp only [mv, Option.some.injEq] at hp hq
    subst hp hq
    split <;> split <;> constructor <;> constructor <;> intro h <;> omega
  | drop n =>
    simp only [mv] at hp hq
    split at hp
    · cases hp
    · split at hq
      · cases hq
      · simp only [Option.some.injEq] at hp hq
        subst hp hq
        split <;> split <;> constructor <;> constructor <;> intro h <;> omega
  | turn n x =>
    simp only [mv, Option.some.injEq] at hp hq
    subst hp hq
    exact ⟨Iff.rfl, Iff.rfl⟩
theorem mv_rng {ts : List Int} {c : Chn} (hc : c.ok ts.length = true) {p q : Int} (h0 : 0 ≤ p) (h1 : p ≤ ts.length + 1) (e : mv c p = some q) : 0 ≤ q ∧ q ≤ ((beh ts c).length : Int) + 1 := by
  have := beh_len hc
  cases c with
  | put n x =>
    have h' : n ≤ ts.length := of_decide_eq_true hc
    simp only at this
    simp only [mv, Option.some.injEq] at e
    subst e; split <;> omega
  | drop n =>
    have h' : n < ts.length := of_decide_eq_true hc
    simp only at this
    simp only [mv] at e
    split at e
    · cases e
    · simp only [Option.some.injEq] at e
      subst e; split <;> omega
  | turn n x =>
    simp only at this
    simp only [mv, Option.some.injEq] at e
    subst e; omega
theorem at_rng {ts : List Int} {c : Chn} (hc : c.ok ts.length = true) (sd : Bool) : 0 ≤ (if sd then (c.at : Int) else (c.at : Int) + 1) ∧ (∀ n, c = .drop n → (if sd then (c.at : Int) else (c.at : Int) + 1) ≤ ((beh ts c).length : Int) + 1) := by
  refine ⟨by split <;> omega, fun n e => ?_⟩
  subst e
  have := beh_len hc
  have h' : n < ts.length := of_decide_eq_true hc
  simp only at this
  simp only [Chn.at]
  split <;> omega
end Pyp

namespace Pyp
open PySem L2
/-! a change that touches nothing leaves the way -/
def tch (ts : List Int) (c : Chn) (r : Row) : Bool := tchL ts c r.sd r.near r.far r.ls
theorem tch_far {ts : List Int} {c : Chn} {sd near far ls q} (h : tchL ts c sd near far ls = false) (hq : mv c near = some q) : mv c far = some (fnd sd (beh ts c) q ls) := by
  unfold tchL at h
  rw [hq] at h
  cases hf : mv c far with
  | none => rw [hf] at h; cases h
  | some f =>
    rw [hf] at h
    have : f = fnd sd (beh ts c) q ls := by simpa using h
    rw [this]
structure Sim (c : Chn) (s s' : RS) : Prop where
  k : s'.k = s.k
  pre : s'.pre = s.pre
  len : s'.spots.length = s.spots.length
  spots : ∀ (i : Nat) (p : Int), s.spots[i]? = some p → ∃ q, mv c p = some q ∧ s'.spots[i]? = some q
theorem Sim.at {c s s' i} (m : Sim c s s') (h : i < s.spots.length) : ∃ q, mv c (s.spots.getD i 0) = some q ∧ s'.spots.getD i 0 = q := by
  obtain ⟨q, h1, h2⟩ := m.spots i _ (getD_at h)
  refine ⟨q, h1, ?_⟩
  have := getD_at (xs := s'.spots) (i := i) (by rw [m.len]; exact h)
  rw [h2] at this
  exact (Option.some.inj this).symm
theorem pref_rows {T ts} : ∀ (m : Nat) (s : RS), ∃ rest, (runS T ts m s).rows = s.rows ++ rest
  | 0, s => ⟨[], by simp [runS]⟩
  | m + 1, s => by
    rcases say_dec T s.k with ⟨y, hk⟩ | hs
    · rw [runS_say hk]; exact ⟨[], by simp⟩
    · rw [runS_stp hs]
      obtain ⟨rest, e⟩ := pref_rows (T := T) (ts := ts) m (stp T ts s)
      have : ∃ r2, (stp T ts s).rows = s.rows ++ r2 := by
        unfold stp
        split
        · exact ⟨_, rfl⟩
        · exact ⟨[], by simp⟩
        · exact ⟨[], by simp⟩
      obtain ⟨r2, e2⟩ := this
      exact ⟨r2 ++ rest, by rw [e, e2]; simp⟩
theorem sim_run {T lv ts c} (w : WF T lv) : ∀ (m : Nat) (s s' : RS), Ok T lv ts s → T.length ≤ m + s.k → Sim c s s' → (∀ r ∈ (runS T ts m s).rows, tch ts c r = false) → Sim c (runS T ts m s) (runS T (beh ts c) m s')
  | 0, s, s', o, hm, _, _ => absurd o.klt (by omega)
  | m + 1, s, s', o, hm, sm, ht => by
    rcases say_dec T s.k with ⟨y, hk⟩ | hs
    · rw [runS_say hk, runS_say (by rw [sm.k]; exact hk)]
      exact sm
    · have hs' : ∀ y, T[s'.k]? ≠ some (.say y) := by rw [sm.k]; exact hs
      obtain ⟨o', hlt⟩ := o.stp w hs
      rw [runS_stp hs] at ht ⊢
      rw [runS_stp hs']
      refine sim_run w m _ _ o' (by omega) ?_ ht
      obtain ⟨x, hk⟩ : ∃ x, T[s.k]? = some x := ⟨_, List.getElem?_eq_getElem o.klt⟩
      have hk' : T[s'.k]? = some x := by rw [sm.k]; exact hk
      have kw := w.ok _ _ hk
      cases x with
      | say y => exact absurd hk (hs y)
      | ask sp sd ls th =>
        obtain ⟨h1, h2, h3, h4, h5⟩ := kw
        have hsp : sp < s.spots.length := by rw [o.lv_]; exact h1
        obtain ⟨q, e1, e2⟩ := sm.at hsp
        have e : stp T ts s = ⟨th, s.pre ++ [s.k], s.spots ++ [fnd sd ts (s.spots.getD sp 0) ls], s.rows ++ [⟨sp, sd, s.spots.getD sp 0, fnd sd ts (s.spots.getD sp 0) ls, ls, th⟩]⟩ := by unfold Pyp.stp; rw [hk]
        have e' : stp T (beh ts c) s' = ⟨th, s'.pre ++ [s'.k], s'.spots ++ [fnd sd (beh ts c) q ls], s'.rows ++ [⟨sp, sd, q, fnd sd (beh ts c) q ls, ls, th⟩]⟩ := by unfold Pyp.stp; rw [hk']; simp only [e2]
        have hr : tch ts c ⟨sp, sd, s.spots.getD sp 0, fnd sd ts (s.spots.getD sp 0) ls, ls, th⟩ = false := by
          obtain ⟨rest, er⟩ := pref_rows (T := T) (ts := ts) m (stp T ts s)
          exact ht _ (by rw [er, e]; simp)
        have hf := tch_far (show tchL ts c sd _ _ ls = false from hr) e1
        rw [e, e']
        generalize s.spots.getD sp 0 = P at *
        refine ⟨rfl, by show s'.pre ++ [s'.k] = s.pre ++ [s.k]; rw [sm.pre, sm.k], by simp [sm.len], fun i p hp => ?_⟩
        have hp' : (s.spots ++ [fnd sd ts P ls])[i]? = some p := hp
        show ∃ q', mv c p = some q' ∧ (s'.spots ++ [fnd sd (beh ts c) q ls])[i]? = some q'
        by_cases hi : i < s.spots.length
        · rw [List.getElem?_append_left hi] at hp'
          obtain ⟨q', f1, f2⟩ := sm.spots i p hp'
          exact ⟨q', f1, by rw [List.getElem?_append_left (by rw [sm.len]; exact hi)]; exact f2⟩
        · rw [List.getElem?_append_right (by omega)] at hp'
          have hi0 : i - s.spots.length = 0 := by
            have := (List.getElem?_eq_some_iff.mp hp').1
            simp at this; omega
          rw [hi0] at hp'
          have : p = fnd sd ts P ls := by simpa using hp'.symm
          subst this
          exact ⟨_, hf, by rw [List.getElem?_append_right (by rw [sm.len]; omega), sm.len, hi0]; rfl⟩
      | ord a b x y z =>
        obtain ⟨h1, h2, h3, h4, h5⟩ := kw
        have hsa : a < s.spots.length := by rw [o.lv_]; exact h1
        have hsb : b < s.spots.length := by rw [o.lv_]; exact h2
        obtain ⟨qa, a1, a2⟩ := sm.at hsa
        obtain ⟨qb, b1, b2⟩ := sm.at hsb
        obtain ⟨l1, l2⟩ := mv_lt a1 b1
        have e : stp T ts s = ⟨ordTo (s.spots.getD a 0) (s.spots.getD b 0) x y z, s.pre ++ [s.k], s.spots, s.rows⟩ := by unfold Pyp.stp; rw [hk]
        have e' : stp T (beh ts c) s' = ⟨ordTo qa qb x y z, s'.pre ++ [s'.k], s'.spots, s'.rows⟩ := by unfold Pyp.stp; rw [hk']; simp only [a2, b2]
        rw [e, e']
        refine ⟨?_, by show s'.pre ++ [s'.k] = s.pre ++ [s.k]; rw [sm.pre, sm.k], sm.len, sm.spots⟩
        show ordTo qa qb x y z = ordTo (s.spots.getD a 0) (s.spots.getD b 0) x y z
        unfold ordTo
        simp only [l1, l2]
theorem sim0 {ts c} (hc : c.ok ts.length = true) : Sim c (s0 ts) (s0 (beh ts c)) := ⟨rfl, rfl, rfl, fun i p h => by
  match i, h with
  | 0, h =>
    have : p = 0 := by simpa [s0] using h.symm
    subst this
    exact ⟨0, mv_zero c, rfl⟩
  | 1, h =>
    have : p = (ts.length : Int) + 1 := by simpa [s0] using h.symm
    subst this
    exact ⟨_, mv_end hc, rfl⟩
  | i + 2, h => simp [s0] at h⟩
theorem untouched {T lv ts c} (w : WF T lv) (hc : c.ok ts.length = true) (h : ∀ r ∈ (fin T ts).rows, tch ts c r = false) : (fin T (beh ts c)).way = (fin T ts).way ∧ (fin T (beh ts c)).k = (fin T ts).k := by
  have m := sim_run (c := c) w 10 (s0 ts) (s0 (beh ts c)) (s0_ok w ts) (by have := w.len; omega) (sim0 hc) h
  have m1 : (fin T (beh ts c)).k = (fin T ts).k := m.k
  have m2 : (fin T (beh ts c)).pre = (fin T ts).pre := m.pre
  exact ⟨by unfold RS.way; rw [m1, m2], m1⟩
/-! what is asked again -/
def again (hit : Nat → Bool) : Nat → List Row → List Nat → List Nat
  | _, [], acc => acc
  | i, r :: rs, acc => again hit (i + 1) rs (if (hit i || acc.any fun j => (j : Int) == (r.sp : Int) - 2) then acc ++ [i] else acc)
theorem again_out (hit : Nat → Bool) : ∀ (rs : List Row) (i : Nat) (acc : List Nat), (∀ j ∈ acc, j < i) → ∃ more, again hit i rs acc = acc ++ more ∧ ∀ j ∈ more, i ≤ j
  | [], i, acc, _ => ⟨[], by simp [again], fun _ h => nomatch h⟩
  | r :: rs, i, acc, h => by
    rw [again]
    split
    · obtain ⟨more, e, hm⟩ := again_out hit rs (i + 1) (acc ++ [i]) (fun j hj => by
        rcases List.mem_append.mp hj with hj | hj
        · have := h j hj; omega
        · have : j = i := by simpa using hj
          omega)
      refine ⟨i :: more, by rw [e]; simp, fun j hj => ?_⟩
      rcases List.mem_cons.mp hj with rfl | hj
      · exact Nat.le_refl _
      · have := hm j hj; omega
    · obtain ⟨more, e, hm⟩ := again_out hit rs (i + 1) acc (fun j hj => by have := h j hj; omega)
      exact ⟨more, e, fun j hj => by have := hm j hj; omega⟩
theorem again_mem (hit : Nat → Bool) : ∀ (rs : List Row) (i : Nat) (acc : List Nat), (∀ j ∈ acc, j < i) → ∀ (k : Nat) (r : Row), rs[k]? = some r →
    (i + k ∈ again hit i rs acc ↔ (hit (i + k) = true ∨ ∃ j ∈ again hit i rs acc, (j : Int) = (r.sp : Int) - 2 ∧ j < i + k))
  | [], i, acc, _, k, r, hr => by simp at hr
  | r0 :: rs, i, acc, h, 0, r, hr => by
    have : r0 = r := by simpa using hr
    subst this
    rw [Nat.add_zero]
    have key : (acc.any fun j => (j : Int) == (r0.sp : Int) - 2) = true ↔ ∃ j ∈ acc, (j : Int) = (r0.sp : Int) - 2 := by
      rw [List.any_eq_true]
      constructor
      · rintro ⟨j, h1, h2⟩; exact ⟨j, h1, by simpa using h2⟩
      · rintro ⟨j, h1, h2⟩; exact ⟨j, h1, by simpa using h2⟩
    rw [again]
    by_cases hc : (hit i || acc.any fun j => (j : Int) == (r0.sp : Int) - 2) = true
    · rw [if_pos hc]
      obtain ⟨more, e, hm⟩ := again_out hit rs (i + 1) (acc ++ [i]) (fun j hj => by
        rcases List.mem_append.mp hj with hj | hj
        · have := h j hj; omega
        · have : j = i := by simpa using hj
          omega)
      rw [e]
      refine ⟨fun _ => ?_, fun _ => by simp⟩
      rw [Bool.or_eq_true] at hc
      rcases hc with hc | hc
      · exact .inl hc
      · obtain ⟨j, h1, h2⟩ := key.mp hc
        exact .inr ⟨j, by simp [h1], h2, h j h1⟩
    · rw [if_neg hc]
      obtain ⟨more, e, hm⟩ := again_out hit rs (i + 1) acc (fun j hj => by have := h j hj; omega)
      rw [e]
      have hc' : hit i = false ∧ ¬ ∃ j ∈ acc, (j : Int) = (r0.sp : Int) - 2 := by
        rw [Bool.or_eq_true, not_or] at hc
        exact ⟨by simpa using hc.1, fun z => hc.2 (key.mpr z)⟩
      constructor
      · intro hi
        exfalso
        rcases List.mem_append.mp hi with hi | hi
        · have := h i hi; omega
        · have := hm i hi; omega
      · rintro (z | ⟨j, h1, h2, h3⟩)
        · rw [hc'.1] at z; cases z
        · exfalso
          rcases List.mem_append.mp h1 with h1 | h1
          · exact hc'.2 ⟨j, h1, h2⟩
          · have := hm j h1; omega
  | r0 :: rs, i, acc, h, k + 1, r, hr => by
    rw [again]
    have e : i + (k + 1) = (i + 1) + k := by omega
    rw [e]
    refine again_mem hit rs (i + 1) _ (fun j hj => ?_) k r (by simpa using hr)
    split at hj
    · rcases List.mem_append.mp hj with hj | hj
      · have := h j hj; omega
      · have : j = i := by simpa using hj
        omega
    · have := h j hj; omega
/-- the ways agree as far as k -/
def Agr (rows later : List Row) (k : Nat) : Prop := ∀ j, j ≤ k → ∃ r r', rows[j]? = some r ∧ later[j]? = some r' ∧ r'.sp = r.sp ∧ r'.sd = r.sd ∧ r'.ls = r.ls
theorem near_moves {T lv ts c} (w : WF T lv) (hc : c.ok ts.length = true) {k : Nat} {r r' : Row} (h1 : (fin T ts).rows[k]? = some r) (h2 : (fin T (beh ts c)).rows[k]? = some r') (es : r'.sp = r.sp)
    (ih : ∀ (j : Nat) (p p' : Row), (j : Int) = (r.sp : Int) - 2 → (fin T ts).rows[j]? = some p → (fin T (beh ts c)).rows[j]? = some p' → j < k → mv c p.far = some p'.far) : mv c r.near = some r'.near := by
  have t := fin_trace w ts
  have t' := fin_trace w (beh ts c)
  obtain ⟨a1, a2, a3, a4, a5⟩ := t.row k r h1
  obtain ⟨b1, b2, b3, b4, b5⟩ := t'.row k r' h2
  rw [es] at b2
  rw [t.spots] at a2
  rw [t'.spots] at b2
  match hsp : r.sp with
  | 0 =>
    rw [hsp] at a2 b2
    have e1 : r.near = 0 := by simpa using a2.symm
    have e2 : r'.near = 0 := by simpa using b2.symm
    rw [e1, e2]; exact mv_zero c
  | 1 =>
    rw [hsp] at a2 b2
    have e1 : r.near = (ts.length : Int) + 1 := by simpa using a2.symm
    have e2 : r'.near = ((beh ts c).length : Int) + 1 := by simpa using b2.symm
    rw [e1, e2]; exact mv_end hc
  | j + 2 =>
    rw [hsp] at a2 b2
    have a2' : ((fin T ts).rows.map Row.far)[j]? = some r.near := by simpa using a2
    have b2' : ((fin T (beh ts c)).rows.map Row.far)[j]? = some r'.near := by simpa using b2
    rw [List.getElem?_map] at a2' b2'
    have hjk : j < k := by omega
    cases hp : (fin T ts).rows[j]? with
    | none => rw [hp] at a2'; cases a2'
    | some p =>
      cases hp' : (fin T (beh ts c)).rows[j]? with
      | none => rw [hp'] at b2'; cases b2'
      | some p' =>
        rw [hp] at a2'
        rw [hp'] at b2'
        have e1 : p.far = r.near := by simpa using a2'
        have e2 : p'.far = r'.near := by simpa using b2'
        rw [← e1, ← e2]
        exact ih j p p' (by omega) hp hp' hjk
theorem stays {T lv ts c} (w : WF T lv) (hc : c.ok ts.length = true) (hit : Nat → Bool) (hh : ∀ i r, (fin T ts).rows[i]? = some r → hit i = tch ts c r) : ∀ (k : Nat), Agr (fin T ts).rows (fin T (beh ts c)).rows k → ∀ (r r' : Row),
    (fin T ts).rows[k]? = some r → (fin T (beh ts c)).rows[k]? = some r' → k ∉ again hit 0 (fin T ts).rows [] → mv c r.far = some r'.far := by
  intro k
  induction k using Nat.strongRecOn with
  | _ k ih =>
    intro ag r r' h1 h2 hn
    obtain ⟨q, q', e1, e2, es, ed, el⟩ := ag k (Nat.le_refl _)
    rw [h1] at e1; cases e1
    rw [h2] at e2; cases e2
    have am := again_mem hit (fin T ts).rows 0 [] (fun _ h => nomatch h) k r h1
    rw [Nat.zero_add] at am
    have hk : hit k = false := by
      cases hx : hit k with
      | false => rfl
      | true => exact absurd (am.mpr (.inl hx)) hn
    have hnear := near_moves w hc h1 h2 es fun j p p' hj hp hp' hjk => ih j hjk (fun i hi => ag i (by omega)) p p' hp hp' fun hm => hn (am.mpr (.inr ⟨j, hm, hj, hjk⟩))
    have b := (fin_trace w (beh ts c)).row k r' h2
    have hf := tch_far (ts := ts) (c := c) (show tchL ts c r.sd r.near r.far r.ls = false from (hh k r h1).symm.trans hk) hnear
    rw [hf, b.2.2.1, ed, el]
theorem first_moves {T lv ts c} (w : WF T lv) (hc : c.ok ts.length = true) (hit : Nat → Bool) (hh : ∀ i r, (fin T ts).rows[i]? = some r → hit i = tch ts c r) (k : Nat) (ag : Agr (fin T ts).rows (fin T (beh ts c)).rows k) (r r' : Row)
    (h1 : (fin T ts).rows[k]? = some r) (h2 : (fin T (beh ts c)).rows[k]? = some r') (hk : hit k = true) (hlt : ∀ j, j < k → hit j = false) : mv c r.far ≠ some r'.far := by
  obtain ⟨q, q', e1, e2, es, ed, el⟩ := ag k (Nat.le_refl _)
  rw [h1] at e1; cases e1
  rw [h2] at e2; cases e2
  have none_again : ∀ j, j < k → ∀ p, (fin T ts).rows[j]? = some p → j ∉ again hit 0 (fin T ts).rows [] := by
    intro j
    induction j using Nat.strongRecOn with
    | _ j ih =>
      intro hj p hp hm
      have am := again_mem hit (fin T ts).rows 0 [] (fun _ h => nomatch h) j p hp
      rw [Nat.zero_add] at am
      rcases am.mp hm with z | ⟨i, h3, h4, h5⟩
      · rw [hlt j hj] at z; cases z
      · obtain ⟨pi, _, hpi, _⟩ := ag i (by omega)
        exact ih i h5 (by omega) pi hpi h3
  have hnear := near_moves w hc h1 h2 es fun j p p' hj hp hp' hjk => stays w hc hit hh j (fun i hi => ag i (by omega)) p p' hp hp' (none_again j hjk p hp)
  have b := (fin_trace w (beh ts c)).row k r' h2
  have ht : tchL ts c r.sd r.near r.far r.ls = true := (hh k r h1).symm.trans hk
  unfold tchL at ht
  rw [hnear] at ht
  intro he
  rw [he] at ht
  have : ¬ r'.far = fnd r.sd (beh ts c) r'.near r.ls := by simpa using ht
  exact this (by rw [b.2.2.1, ed, el])
end Pyp

namespace Pyp
open PySem L2
def mvD : Option Int → D
  | none => .non
  | some i => .int i
theorem lim_k {k : Nat} (h : k ≤ 1000) : k ≤ 1000000 := by omega
theorem behind_ok {ts : List Int} (hl : ts.length ≤ 100) {c : Chn} (hc : c.ok ts.length = true) (ph : PH) : f__law_behind_change [.d (.tup (ID ts)), .d (.tup c.row)] ph = .ok (.d (.tup (ID (beh ts c)))) ph := by
  cases c with
  | put n c =>
    have c1 := cut_to ts n
    have c2 := cut_from ts n
    have a1 : dAdd (.tup (ID (ts.take n))) (.tup [.int c]) = some (.d (.tup (ID (ts.take n ++ [c])))) := add_ints (ms := [c]) (by simp; omega)
    have a2 : dAdd (.tup (ID (ts.take n ++ [c]))) (.tup (ID (ts.drop n))) = some (.d (.tup (ID (ts.take n ++ [c] ++ ts.drop n)))) := add_ints (by simp; omega)
    simp at a1 a2
    simp [f__law_behind_change, Chn.row, cutL_ints, c1, c2, a1, a2, lim, beh]
  | drop n =>
    have c1 := cut_to ts n
    have c2 : cutL ts (some ((n : Int) + 1)) none = ts.drop (n + 1) := cut_from ts (n + 1)
    have a1 : dAdd (.tup (ID (ts.take n))) (.tup []) = some (.d (.tup (ID (ts.take n ++ [])))) := add_ints (ms := []) (by simp; omega)
    have a2 : dAdd (.tup (ID (ts.take n ++ []))) (.tup (ID (ts.drop (n + 1)))) = some (.d (.tup (ID (ts.take n ++ [] ++ ts.drop (n + 1))))) := add_ints (by simp; omega)
    rw [List.append_nil] at a1 a2
    simp at a1 a2
    simp [f__law_behind_change, Chn.row, cutL_ints, c1, c2, a1, a2, lim, beh]
  | turn n c =>
    have c1 := cut_to ts n
    have c2 : cutL ts (some ((n : Int) + 1)) none = ts.drop (n + 1) := cut_from ts (n + 1)
    have a1 : dAdd (.tup (ID (ts.take n))) (.tup [.int c]) = some (.d (.tup (ID (ts.take n ++ [c])))) := add_ints (ms := [c]) (by simp; omega)
    have a2 : dAdd (.tup (ID (ts.take n ++ [c]))) (.tup (ID (ts.drop (n + 1)))) = some (.d (.tup (ID (ts.take n ++ [c] ++ ts.drop (n + 1))))) := add_ints (by simp; omega)
    simp at a1 a2
    simp [f__law_behind_change, Chn.row, cutL_ints, c1, c2, a1, a2, lim, beh]
theorem changed_ok {ts : List Int} (hl : ts.length ≤ 100) {c : Chn} (hc : c.ok ts.length = true) {T C : D} (hT : ∀ ph, f_tuple_of 12 [.d T] ph = .ok (.d (.tup (ID ts))) ph) (hC : ∀ ph, f_tuple_of 12 [.d C] ph = .ok (.d (.tup c.row)) ph) (ph : PH) : f_changed [.d T, .d C] ph = .ok (.d (.tup (ID (beh ts c)))) ph := by
  cases c with
  | put n c =>
    have d1 : decide ((1 : Int) ≤ (n : Int) + 1) = true := decide_eq_true (by omega)
    have h : n ≤ ts.length := of_decide_eq_true hc
    have c1 := cut_to ts n
    have c2 := cut_from ts n
    have a1 : dAdd (.tup (ID (ts.take n))) (.tup [.int c]) = some (.d (.tup (ID (ts.take n ++ [c])))) := add_ints (ms := [c]) (by simp; omega)
    have a2 : dAdd (.tup (ID (ts.take n ++ [c]))) (.tup (ID (ts.drop n))) = some (.d (.tup (ID (ts.take n ++ [c] ++ ts.drop n)))) := add_ints (by simp; omega)
    simp at a1 a2
    simp [f_changed, hT, hC, Chn.row, lim, cutL_ints, c1, c2, h, a1, a2, d1, beh]
  | drop n =>
    have d1 : decide ((1 : Int) ≤ (n : Int) + 1) = true := decide_eq_true (by omega)
    have h : n < ts.length := of_decide_eq_true hc
    have c1 := cut_to ts n
    have c2 : cutL ts (some ((n : Int) + 1)) none = ts.drop (n + 1) := cut_from ts (n + 1)
    have a1 : dAdd (.tup (ID (ts.take n))) (.tup []) = some (.d (.tup (ID (ts.take n ++ [])))) := add_ints (ms := []) (by simp; omega)
    have a2 : dAdd (.tup (ID (ts.take n ++ []))) (.tup (ID (ts.drop (n + 1)))) = some (.d (.tup (ID (ts.take n ++ [] ++ ts.drop (n + 1))))) := add_ints (by simp; omega)
    have h' : (n : Int) + 1 ≤ ts.length := by omega
    rw [List.append_nil] at a1 a2
    simp at a1 a2
    simp [f_changed, hT, hC, Chn.row, lim, cutL_ints, c1, c2, h', a1, a2, d1, beh]
  | turn n c =>
    have d1 : decide ((1 : Int) ≤ (n : Int) + 1) = true := decide_eq_true (by omega)
    have h : n < ts.length := of_decide_eq_true hc
    have c1 := cut_to ts n
    have c2 : cutL ts (some ((n : Int) + 1)) none = ts.drop (n + 1) := cut_from ts (n + 1)
    have a1 : dAdd (.tup (ID (ts.take n))) (.tup [.int c]) = some (.d (.tup (ID (ts.take n ++ [c])))) := add_ints (ms := [c]) (by simp; omega)
    have a2 : dAdd (.tup (ID (ts.take n ++ [c]))) (.tup (ID (ts.drop (n + 1)))) = some (.d (.tup (ID (ts.take n ++ [c] ++ ts.drop (n + 1))))) := add_ints (by simp; omega)
    have h' : (n : Int) + 1 ≤ ts.length := by omega
    simp at a1 a2
    simp [f_changed, hT, hC, Chn.row, lim, cutL_ints, c1, c2, h', a1, a2, d1, beh]
theorem moved_ok (c : Chn) (p : Int) (ph : PH) : f__law_moved [.d (.tup c.row), .d (.int p)] ph = .ok (.d (mvD (mv c p))) ph := by
  cases c with
  | put n c =>
    by_cases h : (n : Int) + 1 ≤ p
    · simp [f__law_moved, Chn.row, h, mv, mvD]
    · simp [f__law_moved, Chn.row, h, mv, mvD]
  | drop n =>
    by_cases h : p = (n : Int) + 1
    · simp [f__law_moved, Chn.row, h, mv, mvD]
    · have hb : (p == (n : Int) + 1) = false := by simpa using h
      by_cases h2 : (n : Int) + 1 < p
      · simp [f__law_moved, Chn.row, h, hb, h2, mv, mvD]
      · simp [f__law_moved, Chn.row, h, hb, h2, mv, mvD]
  | turn n c => simp [f__law_moved, Chn.row, mv, mvD]
theorem ne_int (i j : Int) : dNe (.int i) (.int j) = some (.d (.bl (!(i == j)))) := rfl
theorem ne_non (j : Int) : dNe .non (.int j) = some (.d (.bl true)) := rfl
theorem ltouched_ok {ts : List Int} (hl : ts.length ≤ 99) {c : Chn} (hc : c.ok ts.length = true) (r : Row) (h0 : 0 ≤ r.near) (h1 : r.near ≤ ts.length + 1) (ph : PH) : f__law_touched [.d r.d, .d (.tup (ID ts)), .d (.tup c.row)] ph = .ok (.d (.bl (tch ts c r))) ph := by
  obtain ⟨sp, sd, near, far, ls, th⟩ := r
  have m1 := moved_ok c near
  have m2 := moved_ok c far
  have b := behind_ok (by omega) hc
  have hb := beh_le hc
  unfold tch tchL
  have h0 : 0 ≤ near := h0
  have h1 : near ≤ (ts.length : Int) + 1 := h1
  dsimp only at m1 m2 ⊢
  cases e1 : mv c near with
  | some q =>
    rw [e1] at m1
    obtain ⟨q0, q1⟩ := mv_rng hc h0 h1 e1
    have f1 := own_found (ts := beh ts c) (by omega) q0 q1 sd ls
    cases e2 : mv c far with
    | some f =>
      rw [e2] at m2
      simp [f__law_touched, Row.d, mvD, m1, m2, dIs, isNonB, at3, at4, b, f1, ne_int]
    | none =>
      rw [e2] at m2
      simp [f__law_touched, Row.d, mvD, m1, m2, dIs, isNonB, at3, at4, b, f1, ne_non]
  | none =>
    rw [e1] at m1
    obtain ⟨n, hn⟩ : ∃ n, c = .drop n := by
      cases c with
      | put n x => simp [mv] at e1
      | drop n => exact ⟨n, rfl⟩
      | turn n x => simp [mv] at e1
    obtain ⟨q0, q1⟩ := at_rng hc sd
    have q1 := q1 n hn
    have f1 := own_found (ts := beh ts c) (by omega) q0 q1 sd ls
    cases e2 : mv c far with
    | some f =>
      rw [e2] at m2
      subst hn
      cases sd with
      | true =>
        simp [Chn.at] at f1
        simp [Chn.row, Chn.at] at m1 m2 b ⊢
        simp [f__law_touched, Row.d, mvD, m1, m2, dIs, isNonB, at3, at4, b, f1, ne_int]
      | false =>
        simp [Chn.at] at f1
        simp [Chn.row, Chn.at] at m1 m2 b ⊢
        simp [f__law_touched, Row.d, mvD, m1, m2, dIs, isNonB, at3, at4, b, f1, ne_int]
    | none =>
      rw [e2] at m2
      simp [f__law_touched, Row.d, mvD, m1, m2, dIs, isNonB, at3, at4, b, f1]
theorem min_if (a b : Int) : (if b < a then b else a) = min a b := by
  rw [Int.min_def]; split <;> split <;> omega
theorem max_if (a b : Int) : (if a < b then b else a) = max a b := by
  rw [Int.max_def]; split <;> split <;> omega
theorem is_touched_ok (c : Chn) (r : Row) (ph : PH) : f_is_touched [.d r.e, .d (.tup c.row)] ph = .ok (.d (.bl (tchP c r.near r.far r.ls))) ph := by
  obtain ⟨sp, sd, near, far, ls, th⟩ := r
  dsimp only
  cases c with
  | put n c =>
    by_cases h1 : min near far < (n : Int) + 1
    · by_cases h2 : (n : Int) + 1 ≤ max near far
      · simp [f_is_touched, Row.e, Chn.row, lim, min_if, max_if, tchP, h1, h2]
      · simp [f_is_touched, Row.e, Chn.row, lim, min_if, max_if, tchP, h1, h2]
    · simp [f_is_touched, Row.e, Chn.row, lim, min_if, max_if, tchP, h1]
  | drop n =>
    by_cases h : (n : Int) + 1 = far
    · simp [f_is_touched, Row.e, Chn.row, lim, tchP, h]
    · have hb : ((n : Int) + 1 == far) = false := by simpa using h
      simp [f_is_touched, Row.e, Chn.row, lim, tchP, hb]
  | turn n c =>
    by_cases h : (n : Int) + 1 = far
    · simp [f_is_touched, Row.e, Chn.row, lim, tchP, h]
    · have hb : ((n : Int) + 1 == far) = false := by simpa using h
      by_cases h1 : min near far < (n : Int) + 1
      · by_cases h2 : (n : Int) + 1 < max near far
        · simp [f_is_touched, Row.e, Chn.row, lim, min_if, max_if, tchP, h, hb, h1, h2]
        · simp [f_is_touched, Row.e, Chn.row, lim, min_if, max_if, tchP, h, hb, h1, h2]
      · simp [f_is_touched, Row.e, Chn.row, lim, min_if, max_if, tchP, h, hb, h1]
theorem place_behind_ok {ts : List Int} (hl : ts.length ≤ 99) {c : Chn} (hc : c.ok ts.length = true) {p : Int} (h0 : 0 ≤ p) (h1 : p ≤ ts.length + 1) (ph : PH) : f_place_behind [.d (.tup (ID ts)), .d (.tup c.row), .d (.int p)] ph = .ok (.d (mvD (mv c p))) ph := by
  have s := sure_ok (txt_tup ts) h0 h1
  have t := changed_ok (by omega) hc (T := .tup (ID ts)) (C := .tup c.row) (fun ph => tupof_tup 10 (atom_ints ts) (by simp; omega) ph) (fun ph => tupof_tup 10 (chn_atom c) (by cases c <;> simp [Chn.row]) ph)
  cases c with
  | put n c =>
    have hcut : cutL [D.str wPut, D.int ((n : Int) + 1), D.int c] none (some 2) = [.str wPut, .int ((n : Int) + 1)] := rfl
    simp [Chn.row] at t
    by_cases h : (n : Int) + 1 ≤ p
    · simp [f_place_behind, s, t, Chn.row, hcut, h, mv, mvD]
    · simp [f_place_behind, s, t, Chn.row, hcut, h, mv, mvD]
  | drop n =>
    have hcut : cutL [D.str wDrop, D.int ((n : Int) + 1)] none (some 2) = [.str wDrop, .int ((n : Int) + 1)] := rfl
    simp [Chn.row] at t
    by_cases h : p = (n : Int) + 1
    · subst h
      simp [f_place_behind, s, t, Chn.row, hcut, mv, mvD]
    · have hb : (p == (n : Int) + 1) = false := by simpa using h
      by_cases h2 : (n : Int) + 1 < p
      · simp [f_place_behind, s, t, Chn.row, hcut, h, hb, h2, mv, mvD]
      · simp [f_place_behind, s, t, Chn.row, hcut, h, hb, h2, mv, mvD]
  | turn n c =>
    have hcut : cutL [D.str wTurn, D.int ((n : Int) + 1), D.int c] none (some 2) = [.str wTurn, .int ((n : Int) + 1)] := rfl
    simp [Chn.row] at t
    simp [f_place_behind, s, t, Chn.row, hcut, mv, mvD]
end Pyp

namespace Pyp
open PySem L2
/-! all single changes -/
def lts (W : Nat) : List Int := (List.range W).map fun (i : Nat) => (i : Int) + 1
def chs (W n : Nat) : List Chn := (List.range n).map (fun i => .drop i) ++ ((List.range (n + 1)).flatMap (fun i => (lts W).map fun x => .put i x) ++ (List.range n).flatMap (fun i => (lts W).map fun x => .turn i x))
abbrev CD (cs : List Chn) : List D := cs.map fun c => .tup c.row
theorem law_changes_ok {W n : Nat} (hW : W = 2 ∨ W = 3) (hn : n ≤ 5) (ph : PH) : f__law_changes [.d (.int W), .d (.int n)] ph = .ok (.d (.lst (CD (chs W n)))) ph := by
  rcases hW with rfl | rfl
  · match n, hn with
    | 0, _ => rfl
    | 1, _ => rfl
    | 2, _ => rfl
    | 3, _ => rfl
    | 4, _ => rfl
    | 5, _ => rfl
  · match n, hn with
    | 0, _ => rfl
    | 1, _ => rfl
    | 2, _ => rfl
    | 3, _ => rfl
    | 4, _ => rfl
    | 5, _ => rfl
theorem changes_of_at {W n : Nat} (hW : W = 2 ∨ W = 3) (hn : n ≤ 5) {tx : D} (h : bLen [tx] = some (.d (.int n))) (ph : PH) : f_changes_of [.d (.int W), .d tx] ph = .ok (.d (.tup (CD (chs W n)))) ph := by
  rcases hW with rfl | rfl
  · match n, hn, h with
    | 0, _, h => simp [f_changes_of, h, lim]; rfl
    | 1, _, h => simp [f_changes_of, h, lim]; rfl
    | 2, _, h => simp [f_changes_of, h, lim]; rfl
    | 3, _, h => simp [f_changes_of, h, lim]; rfl
    | 4, _, h => simp [f_changes_of, h, lim]; rfl
    | 5, _, h => simp [f_changes_of, h, lim]; rfl
  · match n, hn, h with
    | 0, _, h => simp [f_changes_of, h, lim]; rfl
    | 1, _, h => simp [f_changes_of, h, lim]; rfl
    | 2, _, h => simp [f_changes_of, h, lim]; rfl
    | 3, _, h => simp [f_changes_of, h, lim]; rfl
    | 4, _, h => simp [f_changes_of, h, lim]; rfl
    | 5, _, h => simp [f_changes_of, h, lim]; rfl
theorem chs_ok {W n : Nat} (hW : W = 2 ∨ W = 3) (hn : n ≤ 5) : (∀ c ∈ chs W n, c.ok n = true) ∧ (chs W n).length ≤ 100 := by
  have : ((chs W n).all fun c => c.ok n) = true ∧ (chs W n).length ≤ 100 := by
    rcases hW with rfl | rfl
    · match n, hn with
      | 0, _ => decide
      | 1, _ => decide
      | 2, _ => decide
      | 3, _ => decide
      | 4, _ => decide
      | 5, _ => decide
    · match n, hn with
      | 0, _ => decide
      | 1, _ => decide
      | 2, _ => decide
      | 3, _ => decide
      | 4, _ => decide
      | 5, _ => decide
  exact ⟨List.all_eq_true.mp this.1, this.2⟩
/-! which asks are touched -/
theorem bls_map {α : Type} (q : α → Bool) : ∀ as : List α, bls (as.map fun a => D.bl (q a)) = some (as.map q)
  | [] => rfl
  | a :: as => by
    show (bls (as.map fun a => D.bl (q a))).map (q a :: ·) = _
    rw [bls_map q as]; rfl
theorem bAny_map {α : Type} (q : α → Bool) (as : List α) : bAny [.lst (as.map fun a => D.bl (q a))] = some (.d (.bl (as.any q))) := by
  show (bls (as.map fun a => D.bl (q a))).map _ = _
  rw [bls_map]
  show some (Val.d (.bl ((as.map q).any id))) = _
  rw [List.any_map]; rfl
def hits (p : Row → Bool) (rows : List Row) : List Nat := ((zi 0 rows).filter fun q => p q.1).map fun q => q.2
structure Small (T : Tree) (ts : List Int) : Prop where
  l5 : ts.length ≤ 5
theorem rows_le {T lv} (w : WF T lv) (ts : List Int) : (fin T ts).rows.length ≤ 10 := by
  have o := (fin_ok w ts).1
  have := o.rl; have := o.klt; have := w.len; omega
/-- touched, as the program looks, is touched, as the law looks -/
theorem tch_eq {T lv ts c} (w : WF T lv) (hl : ts.length ≤ 5) (hc : c.ok ts.length = true) {r : Row} (hr : r ∈ (fin T ts).rows) : tchP c r.near r.far r.ls = tch ts c r := by
  obtain ⟨i, hi⟩ := List.getElem?_of_mem hr
  obtain ⟨a1, a2, a3, a4, a5⟩ := (fin_trace w ts).row i r hi
  unfold tch
  rw [a3]
  exact (heart hl hc r.sd a4.1 a4.2 r.ls).symm
theorem hits_P {T lv ts c} (w : WF T lv) (hl : ts.length ≤ 5) (hc : c.ok ts.length = true) : hits (fun r => tchP c r.near r.far r.ls) (fin T ts).rows = hits (tch ts c) (fin T ts).rows := by
  unfold hits
  congr 1
  apply List.filter_congr
  intro q hq
  exact tch_eq w hl hc (List.mem_of_getElem? (zi_mem _ _ _ hq).2)
theorem tup_row (c : Chn) (ph : PH) : f_tuple_of 12 [.d (.tup c.row)] ph = .ok (.d (.tup c.row)) ph := tupof_tup 10 (chn_atom c) (by cases c <;> simp [Chn.row]) ph
theorem lst_row (c : Chn) (ph : PH) : f_tuple_of 12 [.d (.lst c.row)] ph = .ok (.d (.tup c.row)) ph := tupof_lst 10 (chn_atom c) (by cases c <;> simp [Chn.row]) ph
theorem touched_by_ok {T lv ts c} (w : WF T lv) (hl : ts.length ≤ 5) (hc : c.ok ts.length = true) {tr tx cx : D} (ht : TreeAs T tr) (hx : TextAs ts tx) (hcx : ∀ ph, f_tuple_of 12 [.d cx] ph = .ok (.d (.tup c.row)) ph) (ph : PH) :
    f_touched_by [.d tr, .d tx, .d cx] ph = .ok (.d (.tup (ND (hits (tch ts c) (fin T ts).rows)))) ph := by
  have g := gone_over_ok w (by omega) ht hx ph
  have h := changed_ok (by omega) hc hx.tof hcx ph
  have hr := rows_le w ts
  have c2 := comp_gen (gT 2 (gsCons (gN 4) (gsCons (gN 5) gsNil))) (tB (eCall f_is_touched (aCons (eVar 5) (aCons (eVar 3) aNil)))) (eVar 4)
    [some (.d tr), some (.d tx), some (.d cx), some (.d (.tup c.row)), none, none] (fun q : Row × Nat => .tup [.int (q.2 : Nat), q.1.e]) (fun q => .int (q.2 : Nat)) (fun q => tchP c q.1.near q.1.far q.1.ls)
    (fun q => [some (.d tr), some (.d tx), some (.d cx), some (.d (.tup c.row)), some (.d (.int (q.2 : Nat))), some (.d q.1.e)]) ph (zi 0 (fin T ts).rows) [] (fun q hq => by
      have := is_touched_ok c q.1 ph
      exact ⟨rfl, by simp [this], fun _ => ⟨.d (.int (q.2 : Nat)), rfl, rfl⟩⟩) (by rw [zi_len]; simp; omega)
  rw [← enum_zi] at c2
  have e : ((zi 0 (fin T ts).rows).filter fun q => tchP c q.1.near q.1.far q.1.ls).map (fun q => D.int (q.2 : Nat)) = ND (hits (tch ts c) (fin T ts).rows) := by
    rw [← hits_P w hl hc]
    unfold hits
    show _ = List.map (fun (k : Nat) => D.int (k : Int)) (List.map _ _)
    rw [List.map_map]; rfl
  rw [e] at c2
  simp at c2
  simp [f_touched_by, h, hcx, g, c2]
theorem can_turn_ok {T lv ts} {W : Nat} (hW : W = 2 ∨ W = 3) (w : WF T lv) (hl : ts.length ≤ 5) {tr tx : D} (ht : TreeAs T tr) (hx : TextAs ts tx) (ph : PH) :
    f_can_turn [.d (.int W), .d tr, .d tx] ph = .ok (.d (.tup (CD ((chs W ts.length).filter fun c => (fin T ts).rows.any (tch ts c))))) ph := by
  have g := gone_over_ok w (by omega) ht hx ph
  have h := changes_of_at hW hl hx.t1.ln ph
  have hr := rows_le w ts
  obtain ⟨k1, k2⟩ := chs_ok hW hl
  have c2 := comp_gen (gN 4) (tB (eB bAny (aCons (eComp [5] (gN 5) (iSeqX false (eVar 3)) tYesX (eCall f_is_touched (aCons (eVar 5) (aCons (eVar 4) aNil)))) aNil))) (eVar 4)
    [some (.d (.int W)), some (.d tr), some (.d tx), some (.d (.tup ((fin T ts).rows.map Row.e))), none, none] (fun c : Chn => .tup c.row) (fun c => .tup c.row) (fun c => (fin T ts).rows.any (tch ts c))
    (fun c => [some (.d (.int W)), some (.d tr), some (.d tx), some (.d (.tup ((fin T ts).rows.map Row.e))), some (.d (.tup c.row)), none]) ph (chs W ts.length) [] (fun c hc => by
      have c3 := comp_gen (gN 5) tYesX (eCall f_is_touched (aCons (eVar 5) (aCons (eVar 4) aNil)))
        [some (.d (.int W)), some (.d tr), some (.d tx), some (.d (.tup ((fin T ts).rows.map Row.e))), some (.d (.tup c.row)), none] Row.e (fun r => .bl (tchP c r.near r.far r.ls)) (fun _ => true)
        (fun r => [some (.d (.int W)), some (.d tr), some (.d tx), some (.d (.tup ((fin T ts).rows.map Row.e))), some (.d (.tup c.row)), some (.d r.e)]) ph (fin T ts).rows [] (fun r hr => by
          have := is_touched_ok c r ph
          exact ⟨rfl, rfl, fun _ => ⟨.d (.bl (tchP c r.near r.far r.ls)), by simp [this], rfl⟩⟩) (by simp; omega)
      rw [filter_t] at c3
      have ba := bAny_map (fun r : Row => tchP c r.near r.far r.ls) (fin T ts).rows
      have ea : ((fin T ts).rows.any fun r => tchP c r.near r.far r.ls) = (fin T ts).rows.any (tch ts c) := by
        rw [Bool.eq_iff_iff, List.any_eq_true, List.any_eq_true]
        constructor
        · rintro ⟨r, h1, h2⟩; exact ⟨r, h1, by rw [← tch_eq w hl (k1 c hc) h1]; exact h2⟩
        · rintro ⟨r, h1, h2⟩; exact ⟨r, h1, by rw [tch_eq w hl (k1 c hc) h1]; exact h2⟩
      simp at c3 ba
      refine ⟨rfl, ?_, fun _ => ⟨.d (.tup c.row), rfl, rfl⟩⟩
      rw [← ea]
      simp [c3, ba]) (by simp; omega)
  simp at c2
  simp [f_can_turn, g, h, c2]
theorem turning_ok {T lv ts} {W : Nat} (hW : W = 2 ∨ W = 3) (w : WF T lv) (hl : ts.length ≤ 5) {tr tx : D} (ht : TreeAs T tr) (hx : TextAs ts tx) (ph : PH) :
    f_turning [.d (.int W), .d tr, .d tx] ph = .ok (.d (.tup (CD ((chs W ts.length).filter fun c => yesAt T (fin T (beh ts c)).k != yesAt T (fin T ts).k)))) ph := by
  have g := answer_ok w (by omega) ht hx ph
  have h := changes_of_at hW hl hx.t1.ln ph
  obtain ⟨k1, k2⟩ := chs_ok hW hl
  have c2 := comp_gen (gN 4) (tB (eBin dNe (eCall f_answer (aCons (eVar 1) (aCons (eCall f_changed (aCons (eVar 2) (aCons (eVar 4) aNil))) aNil))) (eVar 3))) (eVar 4)
    [some (.d (.int W)), some (.d tr), some (.d tx), some (.d (.bl (yesAt T (fin T ts).k))), none] (fun c : Chn => .tup c.row) (fun c => .tup c.row) (fun c => yesAt T (fin T (beh ts c)).k != yesAt T (fin T ts).k)
    (fun c => [some (.d (.int W)), some (.d tr), some (.d tx), some (.d (.bl (yesAt T (fin T ts).k))), some (.d (.tup c.row))]) ph (chs W ts.length) [] (fun c hc => by
      have a1 := changed_ok (by omega) (k1 c hc) hx.tof (tup_row c) ph
      have hb := beh_le (k1 c hc)
      have a2 := answer_ok (ts := beh ts c) w (by omega) ht (text_t (by omega)) ph
      exact ⟨rfl, by simp [a1, a2, bne], fun _ => ⟨.d (.tup c.row), rfl, rfl⟩⟩) (by simp; omega)
  simp at c2
  simp [f_turning, g, h, c2]
end Pyp

namespace Pyp
open PySem L2
/-! small data: shape, equality with itself -/
theorem okS_okB : ∀ (k : Nat) (d : D), okS k d → d.okB = true ∧ d.dep ≤ k
  | 0, d, h => h.elim
  | k + 1, d, h => by
    have key : ∀ ds : List D, (∀ e ∈ ds, okS k e) → oksB ds = true ∧ deps ds ≤ k := by
      intro ds
      induction ds with
      | nil => intro _; exact ⟨rfl, Nat.zero_le _⟩
      | cons e ds ih =>
        intro hh
        obtain ⟨a1, a2⟩ := okS_okB k e (hh e List.mem_cons_self)
        obtain ⟨b1, b2⟩ := ih fun x hx => hh x (List.mem_cons_of_mem _ hx)
        rw [oksB, deps, a1, b1]
        exact ⟨rfl, Nat.max_le.mpr ⟨a2, b2⟩⟩
    cases d with
    | int i => exact ⟨rfl, Nat.zero_le _⟩
    | bl b => exact ⟨rfl, Nat.zero_le _⟩
    | str x => exact ⟨h, Nat.zero_le _⟩
    | tup ds =>
      obtain ⟨h1, h2⟩ : ds.length ≤ 1000 ∧ ∀ e ∈ ds, okS k e := h
      obtain ⟨c1, c2⟩ := key ds h2
      exact ⟨by rw [D.okB]; exact c1, by rw [D.dep]; omega⟩
    | lst ds =>
      obtain ⟨h1, h2⟩ : ds.length ≤ 1000 ∧ ∀ e ∈ ds, okS k e := h
      obtain ⟨c1, c2⟩ := key ds h2
      exact ⟨by rw [D.okB]; exact c1, by rw [D.dep]; omega⟩
    | non => exact h.elim
    | dic _ _ => exact h.elim
    | fz _ => exact h.elim
theorem okS_shp {k : Nat} {d : D} (h : okS k d) (hk : k ≤ 64) : shp d = true := by
  obtain ⟨a, b⟩ := okS_okB k d h
  unfold shp
  rw [a, decide_eq_true (Nat.le_trans b hk)]; rfl
theorem okS_deq : ∀ (k : Nat) (d : D), okS k d → deq d d = true
  | 0, d, h => h.elim
  | k + 1, d, h => by
    have key : ∀ ds : List D, (∀ e ∈ ds, okS k e) → deqs ds ds = true := by
      intro ds
      induction ds with
      | nil => intro _; rfl
      | cons e ds ih =>
        intro hh
        rw [deqs, okS_deq k e (hh e List.mem_cons_self), ih fun x hx => hh x (List.mem_cons_of_mem _ hx)]
        rfl
    cases d with
    | int i => rw [deq]; simp
    | bl b => rw [deq]; simp
    | str x => rw [deq]; simp
    | tup ds => rw [deq]; exact key ds (show ds.length ≤ 1000 ∧ ∀ e ∈ ds, okS k e from h).2
    | lst ds => rw [deq]; exact key ds (show ds.length ≤ 1000 ∧ ∀ e ∈ ds, okS k e from h).2
    | non => exact h.elim
    | dic _ _ => exact h.elim
    | fz _ => exact h.elim
theorem ne_self {k : Nat} {d : D} (h : okS k d) (hk : k ≤ 64) : dNe d d = some (.d (.bl false)) := by
  unfold dNe
  rw [if_pos ⟨okS_shp h hk, okS_shp h hk⟩, okS_deq k d h]; rfl
theorem okS_row (c : Chn) (k : Nat) : okS (k + 2) (.tup c.row) := by
  refine ⟨by cases c <;> simp [Chn.row], fun e he => ?_⟩
  cases c <;> (simp only [Chn.row, List.mem_cons, List.not_mem_nil, or_false] at he; rcases he with rfl | rfl | rfl) <;> first | trivial | exact okS_str _ rfl
theorem okS_cdl (cs : List Chn) (h : cs.length ≤ 1000) (k : Nat) : okS (k + 3) (.lst (CD cs)) := ⟨by simpa using h, fun e he => by
  obtain ⟨c, _, rfl⟩ := List.mem_map.mp he
  exact okS_row c k⟩
theorem okS_cdt (cs : List Chn) (h : cs.length ≤ 1000) (k : Nat) : okS (k + 3) (.tup (CD cs)) := ⟨by simpa using h, fun e he => by
  obtain ⟨c, _, rfl⟩ := List.mem_map.mp he
  exact okS_row c k⟩
/-! numbers as data -/
def cI (ks : List Nat) : List Int := ks.map fun (k : Nat) => (k : Int)
theorem nd_id (ks : List Nat) : ND ks = ID (cI ks) := by
  unfold cI
  show _ = List.map _ (List.map _ _)
  rw [List.map_map]; rfl
theorem okS_ndl (ks : List Nat) (h : ks.length ≤ 1000) (k : Nat) : okS (k + 2) (.lst (ND ks)) := by
  rw [nd_id]; exact okS_idl (by unfold cI; simpa using h)
theorem okS_ndt (ks : List Nat) (h : ks.length ≤ 1000) (k : Nat) : okS (k + 2) (.tup (ND ks)) := by
  rw [nd_id]; exact okS_ids (by unfold cI; simpa using h)
def inN (ks : List Nat) (x : Int) : Bool := ks.any fun j => (j : Int) == x
theorem inL_cI (ks : List Nat) (x : Int) : inL (cI ks) x = inN ks x := by
  unfold inL cI inN
  rw [List.any_map]; rfl
theorem dIn_ndt (x : Int) (ks : List Nat) : dIn (.int x) (.tup (ND ks)) = some (.d (.bl (inN ks x))) := by rw [nd_id, dIn_tup, inL_cI]
theorem dIn_ndl (x : Int) (ks : List Nat) : dIn (.int x) (.lst (ND ks)) = some (.d (.bl (inN ks x))) := by rw [nd_id, dIn_lst, inL_cI]
theorem dNotIn_lst (x : Int) (ls : List Int) : dNotIn (.int x) (.lst (ID ls)) = some (.d (.bl (!inL ls x))) := by
  unfold dNotIn inB
  rw [if_pos ⟨shp_int x, shp_lst ls⟩]
  show some (Val.d (.bl (!(ID ls).any fun z => deq z (.int x)))) = _
  rw [any_ints]
theorem dNotIn_ndl (x : Int) (ks : List Nat) : dNotIn (.int x) (.lst (ND ks)) = some (.d (.bl (!inN ks x))) := by rw [nd_id, dNotIn_lst, inL_cI]
theorem deqs_ids : ∀ a b : List Int, deqs (ID a) (ID b) = (a == b)
  | [], [] => rfl
  | [], b :: bs => rfl
  | a :: as, [] => rfl
  | a :: as, b :: bs => by
    show (deq (.int a) (.int b) && deqs (ID as) (ID bs)) = _
    rw [deqs_ids as bs]; rfl
theorem eq_nil (ks : List Nat) : dEq (.lst (ND ks)) (.lst []) = some (.d (.bl ks.isEmpty)) := by
  have h : shp (.lst []) = true := rfl
  rw [nd_id]
  unfold dEq
  rw [if_pos ⟨shp_lst _, h⟩]
  cases ks <;> rfl
theorem ne_nil (ks : List Nat) : dNe (.lst (ND ks)) (.lst []) = some (.d (.bl (!ks.isEmpty))) := by
  rw [nd_id, deqs_nil]
  cases ks <;> rfl
theorem inN_iff (ks : List Nat) (i : Nat) : inN ks (i : Int) = true ↔ i ∈ ks := by
  unfold inN
  rw [List.any_eq_true]
  constructor
  · rintro ⟨j, h1, h2⟩
    have : (j : Int) = i := by simpa using h2
    have : j = i := by omega
    rw [← this]; exact h1
  · intro h; exact ⟨i, h, by simp⟩
/-! the numbers of the hit ones -/
theorem hits_mem (p : Row → Bool) (rows : List Row) (i : Nat) : i ∈ hits p rows ↔ ∃ r, rows[i]? = some r ∧ p r = true := by
  unfold hits
  have mem_zi : ∀ (as : List Row) (n k : Nat) (r : Row), as[k]? = some r → (r, n + k) ∈ zi n as := by
    intro as
    induction as with
    | nil => intro n k r h; simp at h
    | cons a as ih =>
      intro n k r h
      cases k with
      | zero =>
        have : a = r := by simpa using h
        subst this
        exact List.mem_cons_self
      | succ k =>
        have := ih (n + 1) k r (by simpa using h)
        have e : n + (k + 1) = n + 1 + k := by omega
        rw [e]
        exact List.mem_cons_of_mem _ this
  constructor
  · intro h
    obtain ⟨q, hq, rfl⟩ := List.mem_map.mp h
    obtain ⟨h1, h2⟩ := List.mem_filter.mp hq
    obtain ⟨_, h3⟩ := zi_mem _ _ _ h1
    exact ⟨q.1, h3, h2⟩
  · rintro ⟨r, h1, h2⟩
    have := mem_zi rows 0 i r h1
    rw [Nat.zero_add] at this
    exact List.mem_map.mpr ⟨(r, i), List.mem_filter.mpr ⟨this, h2⟩, rfl⟩
theorem hits_at {p : Row → Bool} {rows : List Row} {i : Nat} {r : Row} (h : rows[i]? = some r) : inN (hits p rows) (i : Int) = p r := by
  rw [Bool.eq_iff_iff, inN_iff, hits_mem]
  constructor
  · rintro ⟨r', h1, h2⟩
    rw [h] at h1; cases h1; exact h2
  · intro h2; exact ⟨r, h, h2⟩
theorem hits_empty (p : Row → Bool) (rows : List Row) : (hits p rows).isEmpty = !rows.any p := by
  rw [Bool.eq_iff_iff]
  constructor
  · intro h
    have he : hits p rows = [] := List.isEmpty_iff.mp h
    have : rows.any p = false := by
      rw [List.any_eq_false]
      intro r hr hp
      obtain ⟨i, hi⟩ := List.getElem?_of_mem hr
      have := (hits_mem p rows i).mpr ⟨r, hi, hp⟩
      rw [he] at this; cases this
    rw [this]; rfl
  · intro h
    have h' : rows.any p = false := by simpa using h
    rw [List.any_eq_false] at h'
    apply List.isEmpty_iff.mpr
    apply List.eq_nil_iff_forall_not_mem.mpr
    intro i hi
    obtain ⟨r, h1, h2⟩ := (hits_mem p rows i).mp hi
    exact h' r (List.mem_of_getElem? h1) h2
theorem hits_len (p : Row → Bool) (rows : List Row) : (hits p rows).length ≤ rows.length := by
  unfold hits
  rw [List.length_map]
  exact Nat.le_trans (List.length_filter_le _ _) (Nat.le_of_eq (zi_len _ _))
theorem zi_sorted {α : Type} (p : α × Nat → Bool) : ∀ (as : List α) (n : Nat), (((zi n as).filter p).map fun q => q.2).Pairwise (· < ·) ∧ ∀ i ∈ ((zi n as).filter p).map (fun q => q.2), n ≤ i
  | [], n => ⟨.nil, fun _ h => nomatch h⟩
  | a :: as, n => by
    obtain ⟨h1, h2⟩ := zi_sorted p as (n + 1)
    rw [zi, List.filter_cons]
    split
    · rw [List.map_cons]
      refine ⟨List.pairwise_cons.mpr ⟨fun j hj => by have := h2 j hj; show n < j; omega, h1⟩, fun i hi => ?_⟩
      rcases List.mem_cons.mp hi with rfl | hi
      · exact Nat.le_refl _
      · have := h2 i hi; omega
    · exact ⟨h1, fun i hi => by have := h2 i hi; omega⟩
theorem hits_first {p : Row → Bool} {rows : List Row} {k : Nat} (h : (hits p rows).take 1 = [k]) : inN (hits p rows) (k : Int) = true ∧ ∀ j, j < k → inN (hits p rows) (j : Int) = false := by
  obtain ⟨h1, h2⟩ := zi_sorted (fun q : Row × Nat => p q.1) rows 0
  have h1' : (hits p rows).Pairwise (· < ·) := h1
  cases hh : hits p rows with
  | nil => rw [hh] at h; cases h
  | cons a as =>
    rw [hh] at h h1'
    have e : a = k := by simpa using h
    subst e
    refine ⟨(inN_iff _ _).mpr List.mem_cons_self, fun j hj => ?_⟩
    cases hx : inN (a :: as) (j : Int) with
    | false => rfl
    | true =>
      exfalso
      rcases List.mem_cons.mp ((inN_iff _ _).mp hx) with e | hm
      · omega
      · have := (List.pairwise_cons.mp h1').1 j hm; omega
theorem again_len (hit : Nat → Bool) : ∀ (rs : List Row) (i : Nat) (acc : List Nat), (again hit i rs acc).length ≤ acc.length + rs.length
  | [], i, acc => by simp [again]
  | r :: rs, i, acc => by
    rw [again]
    have := again_len hit rs (i + 1) (if (hit i || acc.any fun j => (j : Int) == (r.sp : Int) - 2) then acc ++ [i] else acc)
    split at this <;> simp at this ⊢ <;> split <;> simp_all <;> omega
/-! the loop that gathers what is asked again -/
theorem again_loop (g : Gx) (b : Sx) (f : Row → D) (hit : Nat → Bool) (EE : List Nat → Option Val → Option Val → Env) (ph : PH)
    (H : ∀ (i : Nat) (r : Row) (acc : List Nat) (o o' : Option Val), acc.length ≤ 1000 → ∃ env1 p p', g (.tup [.int (i : Nat), f r]) (EE acc o o') = some env1 ∧ b env1 ph = .nx (EE (if (hit i || inN acc ((r.sp : Int) - 2)) then acc ++ [i] else acc) p p') ph) :
    ∀ (rs : List Row) (i : Nat) (acc : List Nat) (o o' : Option Val), acc.length + rs.length ≤ 1000 → ∃ p p', forL g b (enumD i (rs.map f)) (EE acc o o') ph = .nx (EE (again hit i rs acc) p p') ph
  | [], i, acc, o, o', _ => ⟨o, o', rfl⟩
  | r :: rs, i, acc, o, o', hl => by
    obtain ⟨env1, p, p', h1, h2⟩ := H i r acc o o' (by simp at hl; omega)
    obtain ⟨q, q', h3⟩ := again_loop g b f hit EE ph H rs (i + 1) (if (hit i || inN acc ((r.sp : Int) - 2)) then acc ++ [i] else acc) p p' (by
      rw [List.length_cons] at hl
      split <;> (try rw [List.length_append, List.length_singleton]) <;> omega)
    refine ⟨q, q', ?_⟩
    show forL g b (.tup [.int (i : Nat), f r] :: enumD (i + 1) (rs.map f)) (EE acc o o') ph = _
    rw [forL_cons, h1]
    show (match b env1 ph with
      | .nx env2 ph2 => forL g b (enumD (i + 1) (rs.map f)) env2 ph2
      | .ct env2 ph2 => forL g b (enumD (i + 1) (rs.map f)) env2 ph2
      | .bk env2 ph2 => .nx env2 ph2
      | o => o) = _
    rw [h2]
    exact h3
abbrev agn (ts : List Int) (c : Chn) (rows : List Row) : List Nat := again (fun i => inN (hits (tch ts c) rows) (i : Int)) 0 rows []
theorem asked_again_ok {T lv ts c} (w : WF T lv) (hl : ts.length ≤ 5) (hc : c.ok ts.length = true) {tr tx cx : D} (ht : TreeAs T tr) (hx : TextAs ts tx) (hcx : ∀ ph, f_tuple_of 12 [.d cx] ph = .ok (.d (.tup c.row)) ph) (ph : PH) :
    f_asked_again [.d tr, .d tx, .d cx] ph = .ok (.d (.tup (ND (agn ts c (fin T ts).rows)))) ph := by
  have g1 := touched_by_ok w hl hc ht hx hcx ph
  have g2 := way_ok w (by omega) ht hx ph
  have hr := rows_le w ts
  have o := (fin_ok w ts).1
  have hw : (fin T ts).way.length ≤ 100 := by
    have := o.pl; have := o.klt; have := w.len
    unfold RS.way; simp; omega
  have c1 := comp_gen (gN 9) (tB (eBin dEq (eBin dIx (eBin dIx (eVar 4) (eVar 9)) (eC (.int 0))) (eC (.str [97, 115, 107])))) (eBin dIx (eVar 4) (eVar 9))
    [some (.d tr), some (.d tx), some (.d cx), some (.d (.tup (ND (hits (tch ts c) (fin T ts).rows)))), some (.d (TD T)), some (.own (.lst [])), none, none, none, none] (fun k : Nat => D.int (k : Int)) (kD T) (isAsk T)
    (fun k => [some (.d tr), some (.d tx), some (.d cx), some (.d (.tup (ND (hits (tch ts c) (fin T ts).rows)))), some (.d (TD T)), some (.own (.lst [])), none, none, none, some (.d (.int (k : Int)))]) ph (fin T ts).way [] (fun k hk => by
      obtain ⟨x, hx⟩ : ∃ x, T[k]? = some x := ⟨_, List.getElem?_eq_getElem (way_lt w ts k hk)⟩
      have ha : atI (T.map Knot.d) (k : Int) = some x.d := atI_in (j := k) rfl (by rw [List.getElem?_map, hx]; rfl)
      have q : kD T k = x.d := by unfold kD; rw [hx]
      have q' : isAsk T k = x.isA := isAsk_at hx
      refine ⟨rfl, ?_, fun _ => ⟨.d x.d, by simp [ha], by rw [q]; rfl⟩⟩
      rw [q']
      cases x with
      | ask a b c d =>
        have ha' : atI (T.map Knot.d) (k : Int) = some (.tup [.str wAsk, .int a, .str (wSide b), .tup (ID c), .int d]) := ha
        simp [ha', Knot.isA]
      | ord a b c d e =>
        have ha' : atI (T.map Knot.d) (k : Int) = some (.tup [.str wOrder, .int a, .int b, .int c, .int d, .int e]) := ha
        simp [ha', Knot.isA]
      | say a =>
        have ha' : atI (T.map Knot.d) (k : Int) = some (.tup [.str wSay, .bl a]) := ha
        simp [ha', Knot.isA]) (by simp; omega)
  rw [asks_way w ts] at c1
  obtain ⟨p, p', c2⟩ := again_loop (gT 2 (gsCons (gN 7) (gsCons (gN 8) gsNil))) (sIf (tOr (tB (eBin dIn (eVar 7) (eVar 3))) (tB (eBin dIn (eBin dSub (eBin dIx (eVar 8) (eC (.int 1))) (eC (.int 2))) (eVar 5)))) (sMut 5 fApp (aCons (eVar 7) aNil)) sNx)
    Row.ask (fun i => inN (hits (tch ts c) (fin T ts).rows) (i : Int)) (fun acc o o' => [some (.d tr), some (.d tx), some (.d cx), some (.d (.tup (ND (hits (tch ts c) (fin T ts).rows)))), some (.d (TD T)), some (.own (.lst (ND acc))), some (.d (.lst ((fin T ts).rows.map Row.ask))), o, o', none]) ph
    (fun i r acc o o' ha => by
      refine ⟨[some (.d tr), some (.d tx), some (.d cx), some (.d (.tup (ND (hits (tch ts c) (fin T ts).rows)))), some (.d (TD T)), some (.own (.lst (ND acc))), some (.d (.lst ((fin T ts).rows.map Row.ask))), some (.d (.int (i : Nat))), some (.d r.ask), none], some (.d (.int (i : Nat))), some (.d r.ask), rfl, ?_⟩
      have i1 := dIn_ndt (i : Int) (hits (tch ts c) (fin T ts).rows)
      have i2 := dIn_ndl ((r.sp : Int) - 2) acc
      have hacc : (ND acc).length < 1000000 := by simp; omega
      cases h1 : inN (hits (tch ts c) (fin T ts).rows) (i : Int) with
      | true =>
        rw [h1] at i1
        simp [i1, sMut, fApp, Row.ask, lim]
        simp at hacc
        simp [hacc]
      | false =>
        rw [h1] at i1
        cases h2 : inN acc ((r.sp : Int) - 2) with
        | true =>
          rw [h2] at i2
          simp [i1, i2, sMut, fApp, Row.ask, lim]
          simp at hacc
          simp [hacc]
        | false =>
          rw [h2] at i2
          simp [i1, i2, sMut, fApp, Row.ask, lim]) (fin T ts).rows 0 [] none none (by simp; omega)
  simp at c1 c2
  simp [f_asked_again, g1, g2, ht.tof, c1]
  rw [c2]
  simp
end Pyp

namespace Pyp
open PySem L2
/-! what is drawn -/
def bPick : Sx := sAppPop 4 3 (aCons (eCall f__law_take (aCons (eVar 0) (aCons (eB bLen (aCons (eVar 3) aNil)) aNil))) aNil)
theorem pick_loop (n : Nat) (o1 o2 : Option Val) (P : D → Prop) : ∀ (k : Nat) (i L : Int) (ph : PH) (d : D) (pool fnd : List D) (o5 : Option Val), ph[n]? = some d → Urn L d → L + k ≤ 1000000 → k ≤ pool.length → pool.length + fnd.length ≤ 200 → (∀ x ∈ pool, P x) → (∀ x ∈ fnd, P x) →
    ∃ pool' fnd' d' p5, forL (gN 5) bPick (rngD i k) [some (.ref n), o1, o2, some (.own (.lst pool)), some (.own (.lst fnd)), o5] ph = .nx [some (.ref n), o1, o2, some (.own (.lst pool')), some (.own (.lst fnd')), p5] (ph.set n d') ∧ fnd'.length = fnd.length + k ∧ (∀ x ∈ fnd', P x) ∧ Urn (L + k) d'
  | 0, i, L, ph, d, pool, fnd, o5, hd, hu, hL, hk, hl, hp, hf => ⟨pool, fnd, d, o5, by rw [set_self hd]; rfl, by simp, hf, hu.up (by omega)⟩
  | k + 1, i, L, ph, d, pool, fnd, o5, hd, hu, hL, hk, hl, hp, hf => by
    have hn : n < ph.length := (List.getElem?_eq_some_iff.mp hd).1
    obtain ⟨r, d1, e1, r0, r1, u1⟩ := take_ok (lo := (pool.length : Int)) hd hu (by omega) (by omega) (by omega)
    obtain ⟨j, rfl⟩ : ∃ j : Nat, r = j := ⟨r.toNat, by omega⟩
    have hj : j < pool.length := by omega
    have hx := ixN_nat hj
    have hg : pool[j]? = some pool[j] := List.getElem?_eq_getElem hj
    obtain ⟨pool', fnd', d2, p5, e2, l2, f2, u2⟩ := pick_loop n o1 o2 P k (i + 1) (L + 1) (ph.set n d1) d1 (pool.eraseIdx j) (fnd ++ [pool[j]]) (some (.d (.int i))) (List.getElem?_set_self hn) u1 (by omega)
      (by rw [List.length_eraseIdx_of_lt hj]; omega) (by rw [List.length_eraseIdx_of_lt hj, List.length_append, List.length_singleton]; omega) (fun x h => hp x (List.mem_of_mem_eraseIdx h)) (fun x h => by
        rcases List.mem_append.mp h with h | h
        · exact hf x h
        · have : x = pool[j] := by simpa using h
          rw [this]; exact hp _ (List.getElem_mem hj))
    refine ⟨pool', fnd', d2, p5, ?_, by rw [l2]; simp; omega, f2, u2.up (by omega)⟩
    rw [rngD, forL_cons]
    have hl1 : pool.length ≤ 1000000 := by omega
    have hl2 : fnd.length < 1000000 := by omega
    have hb : bPick [some (.ref n), o1, o2, some (.own (.lst pool)), some (.own (.lst fnd)), some (.d (.int i))] ph = .nx [some (.ref n), o1, o2, some (.own (.lst (pool.eraseIdx j))), some (.own (.lst (fnd ++ [pool[j]]))), some (.d (.int i))] (ph.set n d1) := by
      simp [bPick, e1, appPop, hx, hg, lim, hl1, hl2]
    show (match bPick [some (.ref n), o1, o2, some (.own (.lst pool)), some (.own (.lst fnd)), some (.d (.int i))] ph with
      | .nx env2 ph2 => forL (gN 5) bPick (rngD (i + 1) k) env2 ph2
      | .ct env2 ph2 => forL (gN 5) bPick (rngD (i + 1) k) env2 ph2
      | .bk env2 ph2 => .nx env2 ph2
      | o => o) = _
    rw [hb]
    show forL (gN 5) bPick (rngD (i + 1) k) _ (ph.set n d1) = _
    rw [e2, List.set_set]
theorem pick_ok {L : Int} {n : Nat} {ph : PH} {d : D} (hd : ph[n]? = some d) (hu : Urn L d) (hL : L ≤ 100000) {gs : List D} (hg : gs.length ≤ 100) {m : Nat} (hm : m ≤ 100) (P : D → Prop) (hP : ∀ x ∈ gs, P x) :
    ∃ rs d', f__law_pick [.ref n, .d (.lst gs), .d (.int m)] ph = .ok (.d (.lst rs)) (ph.set n d') ∧ rs.length = min m gs.length ∧ (∀ x ∈ rs, P x) ∧ Urn (L + 100) d' := by
  obtain ⟨pool', fnd', d', p5, e, l, f, u⟩ := pick_loop n (some (.d (.lst gs))) (some (.d (.int m))) P (min m gs.length) 0 L ph d gs [] none hd hu (by omega) (by omega) (by simp; omega) hP (fun _ h => nomatch h)
  refine ⟨fnd', d', ?_, by simpa using l, f, u.up (by omega)⟩
  have key : f__law_pick = runF 6 (sSeq (sParV 3 4 (eB bLst (aCons (eVar 1) aNil)) (eLst aNil))
    (sSeq (sFor (gN 5) (iRng1X (aCons (eB bMin (aCons (eB bInt (aCons (eVar 2) aNil)) (aCons (eB bLen (aCons (eVar 3) aNil)) aNil))) aNil)) bPick) (sFz 4 (sRet (eVar 4))))) := rfl
  have mi : (if gs.length < m then (gs.length : Int) else (m : Int)) = ((min m gs.length : Nat) : Int) := by split <;> omega
  have ok := okR_of (i := ((min m gs.length : Nat) : Int)) (by omega) (by omega)
  rw [key]
  simp only [runF_s]
  simp [lim]
  rw [mi, ok]
  simp
  have e' : forL (gN 5) bPick (rngD 0 (min m gs.length)) [some (.ref n), some (.d (.lst gs)), some (.d (.int m)), some (.own (.lst gs)), some (.own (.lst [])), none] ph = _ := e
  rw [e']
  simp
theorem letters_ok {L : Int} {W : Nat} (hW : W = 2 ∨ W = 3) {n : Nat} {ph : PH} {d : D} (hd : ph[n]? = some d) (hu : Urn L d) (hL : L ≤ 10000) :
    ∃ ls d', f__law_letters_of [.ref n, .d (.int W)] ph = .ok (.d (.tup (ID ls))) (ph.set n d') ∧ ls.length ≤ 10 ∧ Urn (L + 101) d' := by
  have hn : n < ph.length := (List.getElem?_eq_some_iff.mp hd).1
  obtain ⟨r, d1, e1, r0, r1, u1⟩ := take_ok (lo := (W : Int)) hd hu (by omega) (by omega) (by omega)
  obtain ⟨m, hm⟩ : ∃ m : Nat, 1 + r = m := ⟨(1 + r).toNat, by omega⟩
  have hlen : (rngD 1 W).length = W := rngD_length W 1
  obtain ⟨rs, d2, e2, l2, p2, u2⟩ := pick_ok (n := n) (ph := ph.set n d1) (List.getElem?_set_self hn) u1 (by omega) (gs := rngD 1 W) (by omega) (m := m) (by omega) (fun x => ∃ i : Int, x = .int i) (fun x hx => by
    obtain ⟨i, hi⟩ := List.getElem?_of_mem hx
    exact ⟨_, rngD_get W 1 i x hi⟩)
  obtain ⟨ns, rfl⟩ : ∃ ns : List Int, rs = ID ns := by
    clear e2 l2
    induction rs with
    | nil => exact ⟨[], rfl⟩
    | cons x xs ih =>
      obtain ⟨i, rfl⟩ := p2 x List.mem_cons_self
      obtain ⟨ns, rfl⟩ := ih fun y hy => p2 y (List.mem_cons_of_mem _ hy)
      exact ⟨i :: ns, rfl⟩
  have hl : (sortI ns).length = ns.length := (sortI_perm ns).length_eq
  refine ⟨sortI ns, d2, ?_, by rw [hl]; simp at l2; omega, u2.up (by omega)⟩
  have a1 : ((W : Int) + 1 - 1).toNat = W := by omega
  have k1 := okR_of (i := (W : Int) + 1) (by omega) (by omega)
  have k2 := okR_of (i := (1 : Int)) (by omega) (by omega)
  simp at e2
  simp [f__law_letters_of, k1, k2, a1, e1, hm, e2, intsD_map]
theorem ask_ok {L : Int} {W : Nat} (hW : W = 2 ∨ W = 3) {n : Nat} {ph : PH} {d : D} (hd : ph[n]? = some d) (hu : Urn L d) (hL : L ≤ 9000) (many th : Nat) (hm : many ≤ 100) :
    ∃ sp sd ls d', f__law_ask [.ref n, .d (.int W), .d (.int many), .d (.int th)] ph = .ok (.d (Knot.ask sp sd ls th).d) (ph.set n d') ∧ sp < many + 2 ∧ ls.length ≤ 10 ∧ Urn (L + 103) d' := by
  have hn : n < ph.length := (List.getElem?_eq_some_iff.mp hd).1
  obtain ⟨r, d1, e1, r0, r1, u1⟩ := take_ok (lo := (many : Int) + 2) hd hu (by omega) (by omega) (by omega)
  obtain ⟨sp, rfl⟩ : ∃ sp : Nat, r = sp := ⟨r.toNat, by omega⟩
  obtain ⟨g, d2, e2, hg, u2⟩ := of_ok (n := n) (ph := ph.set n d1) (List.getElem?_set_self hn) u1 (by omega) (gs := [.str wNext, .str wLast]) (by simp) (by simp)
  obtain ⟨sd, rfl⟩ : ∃ sd : Bool, g = .str (wSide sd) := by
    simp only [List.mem_cons, List.not_mem_nil, or_false] at hg
    rcases hg with rfl | rfl
    · exact ⟨true, rfl⟩
    · exact ⟨false, rfl⟩
  obtain ⟨ls, d3, e3, l3, u3⟩ := letters_ok hW (n := n) (ph := ph.set n d2) (List.getElem?_set_self hn) (u2.up (Int.le_refl _)) (by omega)
  refine ⟨sp, sd, ls, d3, ?_, by omega, l3, u3.up (by omega)⟩
  simp at e2 e3
  simp [f__law_ask, e1, lim, e2, e3, Knot.d, Knot.row]
theorem order_ok {L : Int} {n : Nat} {ph : PH} {d : D} (hd : ph[n]? = some d) (hu : Urn L d) (hL : L ≤ 9000) (many : Nat) (hm : many ≤ 90) (g1 g2 g3 : Nat) :
    ∃ a b x y z d', f__law_order [.ref n, .d (.int many), .d (.lst [.int g1, .int g2, .int g3])] ph = .ok (.d (Knot.ord a b x y z).d) (ph.set n d') ∧ a < many + 2 ∧ b < many + 2 ∧ (x = g1 ∨ x = g2 ∨ x = g3) ∧ (y = g1 ∨ y = g2 ∨ y = g3) ∧ (z = g1 ∨ z = g2 ∨ z = g3) ∧ Urn (L + 200) d' := by
  have hn : n < ph.length := (List.getElem?_eq_some_iff.mp hd).1
  have hlen : (rngD 0 (many + 2)).length = many + 2 := rngD_length (many + 2) 0
  obtain ⟨rs, d1, e1, l1, p1, u1⟩ := pick_ok (n := n) (ph := ph) hd hu (by omega) (gs := rngD 0 (many + 2)) (by omega) (m := 2) (by omega) (fun x => ∃ i : Nat, x = .int i ∧ i < many + 2) (fun x hx => by
    obtain ⟨i, hi⟩ := List.getElem?_of_mem hx
    have h2 := (List.getElem?_eq_some_iff.mp hi).1
    exact ⟨i, by rw [rngD_get (many + 2) 0 i x hi]; simp, by omega⟩)
  obtain ⟨rt, d2, e2, l2, p2, u2⟩ := pick_ok (n := n) (ph := ph.set n d1) (List.getElem?_set_self hn) u1 (by omega) (gs := [.int g1, .int g2, .int g3]) (by simp) (m := 3) (by omega) (fun x => ∃ i : Nat, x = .int i ∧ (i = g1 ∨ i = g2 ∨ i = g3)) (fun x hx => by
    simp only [List.mem_cons, List.not_mem_nil, or_false] at hx
    rcases hx with rfl | rfl | rfl
    · exact ⟨g1, rfl, .inl rfl⟩
    · exact ⟨g2, rfl, .inr (.inl rfl)⟩
    · exact ⟨g3, rfl, .inr (.inr rfl)⟩)
  have l1' : rs.length = 2 := by omega
  have l2' : rt.length = 3 := by simpa using l2
  match rs, l1', p1, e1 with
  | [ra, rb], _, p1, e1 =>
    match rt, l2', p2, e2 with
    | [rx, ry, rz], _, p2, e2 =>
      obtain ⟨a, rfl, ha⟩ := p1 ra (by simp)
      obtain ⟨b, rfl, hb⟩ := p1 rb (by simp)
      obtain ⟨x, rfl, hx⟩ := p2 rx (by simp)
      obtain ⟨y, rfl, hy⟩ := p2 ry (by simp)
      obtain ⟨z, rfl, hz⟩ := p2 rz (by simp)
      refine ⟨a, b, x, y, z, d2, ?_, ha, hb, hx, hy, hz, u2.up (by omega)⟩
      have k1 := okR_of (i := (many : Int) + 2) (by omega) (by omega)
      have k2 : ((many : Int) + 2).toNat = many + 2 := by omega
      have e1' : f__law_pick [.ref n, .d (.lst (rngD 0 (many + 2))), .d (.int 2)] ph = .ok (.d (.lst [.int a, .int b])) (ph.set n d1) := e1
      have e2' : f__law_pick [.ref n, .d (.lst [.int g1, .int g2, .int g3]), .d (.int 3)] (ph.set n d1) = .ok (.d (.lst [.int x, .int y, .int z])) (ph.set n d2) := by
        have := e2
        rw [List.set_set] at this
        exact this
      simp [f__law_order, k1, k2, e1', e2', lim, Knot.d, Knot.row]
      rfl
theorem asks_comp {W : Nat} (hW : W = 2 ∨ W = 3) (n : Nat) (o2 o3 : Option Val) : ∀ (k i : Nat) (L : Int) (ph : PH) (d : D) (acc : Tree), ph[n]? = some d → Urn L d → L + 103 * k ≤ 8000 → acc.length + k ≤ 50 → i + k ≤ 50 →
    ∃ T d', compL (gN 4) tYesX (eCall f__law_ask (aCons (eVar 0) (aCons (eVar 1) (aCons (eVar 4) (aCons (eBin dAdd (eVar 4) (eC (.int 1))) aNil))))) [some (.ref n), some (.d (.int W)), o2, o3, none] (rngD (i : Int) k) (acc.map Knot.d) ph = .ok ((acc ++ T).map Knot.d) (ph.set n d') ∧ T.length = k ∧
      (∀ j x, T[j]? = some x → ∃ sp sd ls, x = .ask sp sd ls (i + j + 1) ∧ sp < i + j + 2 ∧ ls.length ≤ 10) ∧ Urn (L + 103 * k) d'
  | 0, i, L, ph, d, acc, hd, hu, hL, ha, hi => ⟨[], d, by simp [rngD, set_self hd], rfl, fun j x h => by simp at h, hu.up (by omega)⟩
  | k + 1, i, L, ph, d, acc, hd, hu, hL, ha, hi => by
    have hn : n < ph.length := (List.getElem?_eq_some_iff.mp hd).1
    obtain ⟨sp, sd, ls, d1, e1, h1, h2, u1⟩ := ask_ok hW hd hu (by omega) i (i + 1) (by omega)
    obtain ⟨T, d2, e2, l2, t2, u2⟩ := asks_comp hW n o2 o3 k (i + 1) (L + 103) (ph.set n d1) d1 (acc ++ [.ask sp sd ls (i + 1)]) (List.getElem?_set_self hn) u1 (by omega) (by simp; omega) (by omega)
    refine ⟨.ask sp sd ls (i + 1) :: T, d2, ?_, by simp [l2], fun j x hj => ?_, u2.up (by omega)⟩
    · have hacc : (acc.map Knot.d).length < lim := by rw [List.length_map]; unfold lim; omega
      have c1 : ((i + 1 : Nat) : Int) = (i : Int) + 1 := by omega
      rw [c1] at e1 e2
      rw [rngD, compL_cons]
      simp at hacc e2
      simp [e1, hacc]
      exact e2
    · cases j with
      | zero =>
        have : x = .ask sp sd ls (i + 1) := by simpa using hj.symm
        subst this
        exact ⟨sp, sd, ls, by simp, by omega, h2⟩
      | succ j =>
        obtain ⟨sp', sd', ls', f1, f2, f3⟩ := t2 j x (by simpa using hj)
        exact ⟨sp', sd', ls', by rw [f1]; congr 1; omega, by omega, f3⟩
end Pyp

namespace Pyp
open PySem L2
theorem dAdd_lst (ds es : List D) : dAdd (.lst ds) (.lst es) = if ds.length + es.length ≤ lim then some (.own (.lst (ds ++ es))) else none := rfl
theorem dAdd_tup (ds es : List D) : dAdd (.tup ds) (.tup es) = if ds.length + es.length ≤ lim then some (.d (.tup (ds ++ es))) else none := rfl
def lvA (k : Nat) : Nat := if k = 0 then 2 else if k ≤ 3 then 3 else 4
theorem wfA {sp0 sp1 sp2 : Nat} {sd0 sd1 sd2 : Bool} {ls0 ls1 ls2 : List Int} {a b x y z a' b' x' y' z' : Nat} (h0 : sp0 < 2) (h1 : sp1 < 3) (h2 : sp2 < 3) (l0 : ls0.length ≤ 10) (l1 : ls1.length ≤ 10) (l2 : ls2.length ≤ 10)
    (ha : a < 3) (hb : b < 3) (hx : x = 2 ∨ x = 3) (hy : y = 2 ∨ y = 3) (hz : z = 2 ∨ z = 3) (ha' : a' < 4) (hb' : b' < 4) (hx' : x' = 5 ∨ x' = 6) (hy' : y' = 5 ∨ y' = 6) (hz' : z' = 5 ∨ z' = 6) :
    WF [.ask sp0 sd0 ls0 1, .ord a b x y z, .ask sp1 sd1 ls1 4, .ask sp2 sd2 ls2 4, .ord a' b' x' y' z', .say true, .say false] lvA := ⟨by show 0 < 7; decide, by show 7 ≤ 10; decide, rfl, fun k v h => by
  have e1 : lvA 0 = 2 := rfl
  have e2 : lvA 1 = 3 := rfl
  have e3 : lvA 2 = 3 := rfl
  have e4 : lvA 3 = 3 := rfl
  have e5 : lvA 4 = 4 := rfl
  have e6 : lvA 5 = 4 := rfl
  have e7 : lvA 6 = 4 := rfl
  have in23 : ∀ j, (j = 2 ∨ j = 3) → 1 < j ∧ j < 7 ∧ lvA j = lvA 1 := fun j hj => by rcases hj with rfl | rfl <;> decide
  have in56 : ∀ j, (j = 5 ∨ j = 6) → 4 < j ∧ j < 7 ∧ lvA j = lvA 4 := fun j hj => by rcases hj with rfl | rfl <;> decide
  match k, h with
  | 0, h =>
    have : v = .ask sp0 sd0 ls0 1 := by simpa using h.symm
    subst this
    exact ⟨h0, by decide, by show 1 < 7; decide, rfl, l0⟩
  | 1, h =>
    have : v = .ord a b x y z := by simpa using h.symm
    subst this
    exact ⟨ha, hb, in23 x hx, in23 y hy, in23 z hz⟩
  | 2, h =>
    have : v = .ask sp1 sd1 ls1 4 := by simpa using h.symm
    subst this
    exact ⟨h1, by decide, by show 4 < 7; decide, rfl, l1⟩
  | 3, h =>
    have : v = .ask sp2 sd2 ls2 4 := by simpa using h.symm
    subst this
    exact ⟨h2, by decide, by show 4 < 7; decide, rfl, l2⟩
  | 4, h =>
    have : v = .ord a' b' x' y' z' := by simpa using h.symm
    subst this
    exact ⟨ha', hb', in56 x' hx', in56 y' hy', in56 z' hz'⟩
  | 5, h =>
    have : v = .say true := by simpa using h.symm
    subst this
    trivial
  | 6, h =>
    have : v = .say false := by simpa using h.symm
    subst this
    trivial
  | k + 7, h => simp at h⟩
def lvB (m k : Nat) : Nat := 2 + min k m
theorem wfB {m : Nat} {A : Tree} (hm : m ≤ 6) (hA : A.length = m) (hask : ∀ j x, A[j]? = some x → ∃ sp sd ls, x = .ask sp sd ls (0 + j + 1) ∧ sp < 0 + j + 2 ∧ ls.length ≤ 10) {a b x y z a' b' x' y' z' : Nat}
    (ha : a < m + 2) (hb : b < m + 2) (hx : x = m + 1 ∨ x = m + 2 ∨ x = m + 3) (hy : y = m + 1 ∨ y = m + 2 ∨ y = m + 3) (hz : z = m + 1 ∨ z = m + 2 ∨ z = m + 3) (ha' : a' < m + 2) (hb' : b' < m + 2) (hx' : x' = m + 2 ∨ x' = m + 3) (hy' : y' = m + 2 ∨ y' = m + 3) (hz' : z' = m + 2 ∨ z' = m + 3) :
    WF (A ++ [.ord a b x y z, .ord a' b' x' y' z', .say true, .say false]) (lvB m) := by
  have hlen : (A ++ [Knot.ord a b x y z, .ord a' b' x' y' z', .say true, .say false]).length = m + 4 := by simp [hA]
  have lvm : ∀ j, m ≤ j → lvB m j = m + 2 := fun j h => by unfold lvB; omega
  refine ⟨by rw [hlen]; omega, by rw [hlen]; omega, by unfold lvB; omega, fun k v h => ?_⟩
  rw [hlen]
  by_cases hk : k < m
  · rw [List.getElem?_append_left (by rw [hA]; exact hk)] at h
    obtain ⟨sp, sd, ls, rfl, h1, h2⟩ := hask k v h
    refine ⟨?_, by omega, by omega, ?_, h2⟩
    · unfold lvB; omega
    · unfold lvB; omega
  · rw [List.getElem?_append_right (by rw [hA]; omega), hA] at h
    obtain ⟨j, hj⟩ : ∃ j, k = m + j := ⟨k - m, by omega⟩
    subst hj
    have e : m + j - m = j := by omega
    rw [e] at h
    match j, h with
    | 0, h =>
      have : v = .ord a b x y z := by simpa using h.symm
      subst this
      have go : ∀ i, (i = m + 1 ∨ i = m + 2 ∨ i = m + 3) → m + 0 < i ∧ i < m + 4 ∧ lvB m i = lvB m (m + 0) := fun i hi => ⟨by omega, by omega, by rw [lvm i (by omega), lvm (m + 0) (by omega)]⟩
      exact ⟨by rw [lvm _ (by omega)]; exact ha, by rw [lvm _ (by omega)]; exact hb, go x hx, go y hy, go z hz⟩
    | 1, h =>
      have : v = .ord a' b' x' y' z' := by simpa using h.symm
      subst this
      have go : ∀ i, (i = m + 2 ∨ i = m + 3) → m + 1 < i ∧ i < m + 4 ∧ lvB m i = lvB m (m + 1) := fun i hi => ⟨by omega, by omega, by rw [lvm i (by omega), lvm (m + 1) (by omega)]⟩
      exact ⟨by rw [lvm _ (by omega)]; exact ha', by rw [lvm _ (by omega)]; exact hb', go x' hx', go y' hy', go z' hz'⟩
    | 2, h =>
      have : v = .say true := by simpa using h.symm
      subst this
      trivial
    | 3, h =>
      have : v = .say false := by simpa using h.symm
      subst this
      trivial
    | j + 4, h => simp at h
theorem tree_ok {L : Int} {W : Nat} (hW : W = 2 ∨ W = 3) {n : Nat} {ph : PH} {d : D} (hd : ph[n]? = some d) (hu : Urn L d) (hL : L ≤ 1000) :
    ∃ T lv d', f__law_tree [.ref n, .d (.int W)] ph = .ok (.d (TD T)) (ph.set n d') ∧ WF T lv ∧ Urn (L + 2000) d' := by
  have hn : n < ph.length := (List.getElem?_eq_some_iff.mp hd).1
  obtain ⟨r, d0, e0, r0, r1, u0⟩ := take_ok (lo := 3) hd hu (by omega) (by decide) (by decide)
  by_cases hr : r = 0
  · subst hr
    obtain ⟨sp0, sd0, ls0, d1, e1, h1, l1, u1⟩ := ask_ok hW (n := n) (ph := ph.set n d0) (List.getElem?_set_self hn) u0 (by omega) 0 1 (by decide)
    obtain ⟨q, d2, e2, q0, q1, u2⟩ := take_ok (lo := 2) (n := n) (ph := ph.set n d1) (List.getElem?_set_self hn) u1 (by omega) (by decide) (by decide)
    obtain ⟨g, rfl⟩ : ∃ g : Nat, q = g := ⟨q.toNat, by omega⟩
    obtain ⟨a, b, x, y, z, d3, e3, ha, hb, hx, hy, hz, u3⟩ := order_ok (n := n) (ph := ph.set n d2) (List.getElem?_set_self hn) u2 (by omega) 1 (by decide) 2 3 (2 + g)
    obtain ⟨sp1, sd1, ls1, d4, e4, h4, l4, u4⟩ := ask_ok hW (n := n) (ph := ph.set n d3) (List.getElem?_set_self hn) u3 (by omega) 1 4 (by decide)
    obtain ⟨sp2, sd2, ls2, d5, e5, h5, l5, u5⟩ := ask_ok hW (n := n) (ph := ph.set n d4) (List.getElem?_set_self hn) u4 (by omega) 1 4 (by decide)
    obtain ⟨q', d6, e6, q0', q1', u6⟩ := take_ok (lo := 2) (n := n) (ph := ph.set n d5) (List.getElem?_set_self hn) u5 (by omega) (by decide) (by decide)
    obtain ⟨g', rfl⟩ : ∃ g' : Nat, q' = g' := ⟨q'.toNat, by omega⟩
    obtain ⟨a', b', x', y', z', d7, e7, ha', hb', hx', hy', hz', u7⟩ := order_ok (n := n) (ph := ph.set n d6) (List.getElem?_set_self hn) u6 (by omega) 2 (by decide) 5 6 (5 + g')
    refine ⟨_, lvA, d7, ?_, wfA (sd0 := sd0) (sd1 := sd1) (sd2 := sd2) h1 h4 h5 l1 l4 l5 ha hb (x := x) (y := y) (z := z) (by omega) (by omega) (by omega) ha' hb' (x' := x') (y' := y') (z' := z') (by omega) (by omega) (by omega), u7.up (by omega)⟩
    have c1 : ((2 + g : Nat) : Int) = 2 + (g : Int) := by omega
    have c2 : ((5 + g' : Nat) : Int) = 5 + (g' : Int) := by omega
    rw [c1] at e3
    rw [c2] at e7
    have e1' : f__law_ask [.ref n, .d (.int W), .d (.int 0), .d (.int 1)] (ph.set n d0) = .ok (.d (Knot.ask sp0 sd0 ls0 1).d) (ph.set n d1) := by
      have := e1; rw [List.set_set] at this; exact this
    have e3' : f__law_order [.ref n, .d (.int 1), .d (.lst [.int 2, .int 3, .int (2 + (g : Int))])] (ph.set n d2) = .ok (.d (Knot.ord a b x y z).d) (ph.set n d3) := by
      have := e3; rw [List.set_set] at this; exact this
    have e4' : f__law_ask [.ref n, .d (.int W), .d (.int 1), .d (.int 4)] (ph.set n d3) = .ok (.d (Knot.ask sp1 sd1 ls1 4).d) (ph.set n d4) := by
      have := e4; rw [List.set_set] at this; exact this
    have e5' : f__law_ask [.ref n, .d (.int W), .d (.int 1), .d (.int 4)] (ph.set n d4) = .ok (.d (Knot.ask sp2 sd2 ls2 4).d) (ph.set n d5) := by
      have := e5; rw [List.set_set] at this; exact this
    have e7' : f__law_order [.ref n, .d (.int 2), .d (.lst [.int 5, .int 6, .int (5 + (g' : Int))])] (ph.set n d6) = .ok (.d (Knot.ord a' b' x' y' z').d) (ph.set n d7) := by
      have := e7; rw [List.set_set] at this; exact this
    rw [List.set_set] at e2 e6
    simp [f__law_tree, e0, e1', e2, e3', e4', e5', e6, e7', lim, dAdd_tup, Knot.d, Knot.row]
  · obtain ⟨q, d1, e1, q0, q1, u1⟩ := take_ok (lo := 3) (n := n) (ph := ph.set n d0) (List.getElem?_set_self hn) u0 (by omega) (by decide) (by decide)
    obtain ⟨m, hm⟩ : ∃ m : Nat, 1 + q = m := ⟨(1 + q).toNat, by omega⟩
    obtain ⟨A, d2, e2, hA, hask, u2⟩ := asks_comp hW n none (some (.d (.int m))) m 0 (L + 2) (ph.set n d1) d1 [] (List.getElem?_set_self hn) (u1.up (by omega)) (by omega) (by simp; omega) (by omega)
    obtain ⟨a, b, x, y, z, d3, e3, ha, hb, hx, hy, hz, u3⟩ := order_ok (n := n) (ph := ph.set n d2) (List.getElem?_set_self hn) u2 (by omega) m (by omega) (m + 1) (m + 2) (m + 3)
    obtain ⟨q', d4, e4, q0', q1', u4⟩ := take_ok (lo := 2) (n := n) (ph := ph.set n d3) (List.getElem?_set_self hn) u3 (by omega) (by decide) (by decide)
    obtain ⟨g', rfl⟩ : ∃ g' : Nat, q' = g' := ⟨q'.toNat, by omega⟩
    obtain ⟨a', b', x', y', z', d5, e5, ha', hb', hx', hy', hz', u5⟩ := order_ok (n := n) (ph := ph.set n d4) (List.getElem?_set_self hn) u4 (by omega) m (by omega) (m + 2) (m + 3) (m + 2 + g')
    refine ⟨A ++ [.ord a b x y z, .ord a' b' x' y' z', .say true, .say false], lvB m, d5, ?_, wfB (by omega) hA hask ha hb (x := x) (y := y) (z := z) hx hy hz ha' hb' (x' := x') (y' := y') (z' := z') (by omega) (by omega) (by omega), u5.up (by omega)⟩
    have c1 : ((m + 1 : Nat) : Int) = (m : Int) + 1 := by omega
    have c2 : ((m + 2 : Nat) : Int) = (m : Int) + 2 := by omega
    have c3 : ((m + 3 : Nat) : Int) = (m : Int) + 3 := by omega
    have c4 : ((m + 2 + g' : Nat) : Int) = (m : Int) + 2 + (g' : Int) := by omega
    rw [c1, c2, c3, List.set_set] at e3
    rw [c2, c3, c4, List.set_set] at e5
    rw [List.set_set] at e1 e2 e4
    have k1 := okR_of (i := (m : Int)) (by omega) (by omega)
    have hr' : (r == 0) = false := by simpa using hr
    have hA6 : A.length ≤ 6 := by omega
    simp at e2
    simp [f__law_tree, e0, hr', e1, hm, k1, e2, e3, e4, e5, lim, dAdd_tup, dAdd_lst, show A.length + 2 ≤ 1000000 by omega, show A.length + 1 + 1 + 2 ≤ 1000000 by omega]
    simp [Knot.d, Knot.row]
end Pyp

namespace Pyp
open PySem L2
def RT_1 : Sx := (sSet 1 (eBin dAdd (eC (.int 2)) (eCall f__law_take (aCons (eVar 0) (aCons (eC (.int 2)) aNil)))))
def RT_2 : Sx := (sAsg (gT 2 (gsCons (gN 2) (gsCons (gN 3) gsNil))) (eTup (aCons (eCall f__law_tree (aCons (eVar 0) (aCons (eVar 1) aNil))) (aCons (eCall f__law_text (aCons (eVar 0) (aCons (eVar 1) (aCons (eC (.int 5)) aNil)))) aNil))))
def RT_3 : Sx := (sAsg (gT 3 (gsCons (gN 4) (gsCons (gN 5) (gsCons (gN 6) gsNil)))) (eCall f__law_run (aCons (eVar 2) (aCons (eVar 3) aNil))))
def RT_4 : Sx := (sIf (tNot (tB (eCall (f__law_same 12) (aCons (eLst (aCons (eCall f_gone_over (aCons (eVar 2) (aCons (eVar 3) aNil))) (aCons (eCall f_gone_over (aCons (eCall (f__law_lists 12) (aCons (eVar 2) aNil)) (aCons (eB bLst (aCons (eVar 3) aNil)) aNil))) aNil))) (aCons (eBin dMul (eLst (aCons (eB bTup (aCons (eComp [17] (gN 17) (iSeqX false (eVar 4)) tYesX (eCut (eVar 17) (pAt (eC (.int 1))) pNo)) aNil)) aNil)) (eC (.int 2))) aNil))))) (sRet (eC (.bl false))) sNx)
def RT_5 : Sx := (sAsg (gT 3 (gsCons (gN 7) (gsCons (gN 8) (gsCons (gN 9) gsNil)))) (eTup (aCons (eCall f__law_changes (aCons (eVar 1) (aCons (eB bLen (aCons (eVar 3) aNil)) aNil))) (aCons (eLst aNil) (aCons (eLst aNil) aNil)))))
def RT_6b_1 : Sx := (sAsg (gT 3 (gsCons (gN 11) (gsCons (gN 12) (gsCons (gN 13) gsNil)))) (eCall f__law_run (aCons (eVar 2) (aCons (eCall f__law_behind_change (aCons (eVar 3) (aCons (eVar 10) aNil))) aNil))))
def RT_6b_2 : Sx := (sSet 14 (eComp [16, 17] (gT 2 (gsCons (gN 16) (gsCons (gN 17) gsNil))) (iEnumX false (aCons (eVar 4) aNil)) (tB (eCall f__law_touched (aCons (eVar 17) (aCons (eVar 3) (aCons (eVar 10) aNil))))) (eVar 16)))
def RT_6b_3 : Sx := (sSet 8 (eBin dAdd (eVar 8) (eIf (tB (eBin dNe (eVar 14) (eLst aNil))) (eLst (aCons (eVar 10) aNil)) (eLst aNil))))
def RT_6b_4 : Sx := (sSet 9 (eBin dAdd (eVar 9) (eIf (tB (eBin dNe (eVar 12) (eVar 5))) (eLst (aCons (eVar 10) aNil)) (eLst aNil))))
def RT_6b_5 : Sx := (sIf (tAnd (tB (eBin dEq (eVar 14) (eLst aNil))) (tB (eBin dNe (eVar 13) (eVar 6)))) (sRet (eC (.bl false))) sNx)
def RT_6b : Sx := (sSeq RT_6b_1 (sSeq RT_6b_2 (sSeq RT_6b_3 (sSeq RT_6b_4 RT_6b_5))))
def RT_6 : Sx := (sFor (gN 10) (iSeqX true (eVar 7)) RT_6b)
def RT_7 : Sx := (sIf (tNot (tB (eCall (f__law_same 12) (aCons (eLst (aCons (eCall f_can_turn (aCons (eVar 1) (aCons (eVar 2) (aCons (eVar 3) aNil)))) (aCons (eCall f_turning (aCons (eVar 1) (aCons (eVar 2) (aCons (eVar 3) aNil)))) (aCons (eCall f_turning (aCons (eVar 1) (aCons (eCall (f__law_lists 12) (aCons (eVar 2) aNil)) (aCons (eB bLst (aCons (eVar 3) aNil)) aNil)))) aNil)))) (aCons (eLst (aCons (eB bTup (aCons (eVar 8) aNil)) (aCons (eB bTup (aCons (eVar 9) aNil)) (aCons (eB bTup (aCons (eVar 9) aNil)) aNil)))) aNil))))) (sRet (eC (.bl false))) sNx)
def RT_8 : Sx := (sIf (tB (eBin dNe (eComp [17] (gN 17) (iSeqX false (eVar 9)) (tB (eBin dNotIn (eVar 17) (eVar 8))) (eVar 17)) (eLst aNil))) (sRet (eC (.bl false))) sNx)
def RT_9b_1 : Sx := (sParV 14 15 (eComp [16, 17] (gT 2 (gsCons (gN 16) (gsCons (gN 17) gsNil))) (iEnumX false (aCons (eVar 4) aNil)) (tB (eCall f__law_touched (aCons (eVar 17) (aCons (eVar 3) (aCons (eVar 10) aNil))))) (eVar 16)) (eLst aNil))
def RT_9b_2b : Sx := (sIf (tOr (tB (eBin dIn (eVar 16) (eVar 14))) (tB (eBin dIn (eBin dSub (eBin dIx (eVar 17) (eC (.int 0))) (eC (.int 2))) (eVar 15)))) (sMut 15 fApp (aCons (eVar 16) aNil)) sNx)
def RT_9b_2 : Sx := (sFor (gT 2 (gsCons (gN 16) (gsCons (gN 17) gsNil))) (iEnumX true (aCons (eVar 4) aNil)) RT_9b_2b)
def RT_9b_3 : Sx := (sIf (tNot (tB (eCall (f__law_same 12) (aCons (eLst (aCons (eCall f_touched_by (aCons (eVar 2) (aCons (eVar 3) (aCons (eVar 10) aNil)))) (aCons (eCall f_asked_again (aCons (eCall (f__law_lists 12) (aCons (eVar 2) aNil)) (aCons (eB bLst (aCons (eVar 3) aNil)) (aCons (eB bLst (aCons (eVar 10) aNil)) aNil)))) aNil))) (aCons (eLst (aCons (eB bTup (aCons (eVar 14) aNil)) (aCons (eB bTup (aCons (eVar 15) aNil)) aNil))) aNil))))) (sRet (eC (.bl false))) sNx)
def RT_9b_4 : Sx := (sSet 11 (eBin dIx (eCall f__law_run (aCons (eVar 2) (aCons (eCall f__law_behind_change (aCons (eVar 3) (aCons (eVar 10) aNil))) aNil))) (eC (.int 0))))
def RT_9b_5b_1 : Sx := (sIf (tB (eBin dNe (eTup (aCons (eBin dIx (eBin dIx (eVar 11) (eVar 16)) (eC (.int 0))) (aCons (eBin dIx (eBin dIx (eVar 11) (eVar 16)) (eC (.int 1))) (aCons (eBin dIx (eBin dIx (eVar 11) (eVar 16)) (eC (.int 4))) aNil)))) (eTup (aCons (eBin dIx (eBin dIx (eVar 4) (eVar 16)) (eC (.int 0))) (aCons (eBin dIx (eBin dIx (eVar 4) (eVar 16)) (eC (.int 1))) (aCons (eBin dIx (eBin dIx (eVar 4) (eVar 16)) (eC (.int 4))) aNil)))))) sBk sNx)
def RT_9b_5b_2 : Sx := (sSet 18 (eBin dEq (eBin dIx (eBin dIx (eVar 11) (eVar 16)) (eC (.int 3))) (eCall f__law_moved (aCons (eVar 10) (aCons (eBin dIx (eBin dIx (eVar 4) (eVar 16)) (eC (.int 3))) aNil)))))
def RT_9b_5b_3 : Sx := (sIf (tOr (tAnd (tB (eBin dNotIn (eVar 16) (eVar 15))) (tNot (tB (eVar 18)))) (tAnd (tB (eBin dEq (eCut (eVar 14) pNo (pAt (eC (.int 1)))) (eLst (aCons (eVar 16) aNil)))) (tB (eVar 18)))) (sRet (eC (.bl false))) sNx)
def RT_9b_5b : Sx := (sSeq RT_9b_5b_1 (sSeq RT_9b_5b_2 RT_9b_5b_3))
def RT_9b_5 : Sx := (sFor (gN 16) (iRng1X (aCons (eB bMin (aCons (eB bLen (aCons (eVar 4) aNil)) (aCons (eB bLen (aCons (eVar 11) aNil)) aNil))) aNil)) RT_9b_5b)
def RT_9b_6 : Sx := (sSet 19 (eCall f__law_take (aCons (eVar 0) (aCons (eBin dAdd (eB bLen (aCons (eVar 3) aNil)) (eC (.int 2))) aNil))))
def RT_9b_7 : Sx := (sIf (tNot (tB (eCall (f__law_same 12) (aCons (eCall f_place_behind (aCons (eVar 3) (aCons (eVar 10) (aCons (eVar 19) aNil)))) (aCons (eCall f__law_moved (aCons (eVar 10) (aCons (eVar 19) aNil))) aNil))))) (sRet (eC (.bl false))) sNx)
def RT_9b : Sx := (sSeq RT_9b_1 (sSeq RT_9b_2 (sSeq RT_9b_3 (sSeq RT_9b_4 (sSeq RT_9b_5 (sSeq RT_9b_6 RT_9b_7))))))
def RT_9 : Sx := (sFor (gN 10) (iSeqX true (eCall f__law_pick (aCons (eVar 0) (aCons (eVar 7) (aCons (eC (.int 4)) aNil))))) RT_9b)
def RT_10 : Sx := (sRet (eC (.bl true)))
def RT : Sx := (sSeq RT_1 (sSeq RT_2 (sSeq RT_3 (sSeq RT_4 (sSeq RT_5 (sSeq RT_6 (sSeq RT_7 (sSeq RT_8 (sSeq RT_9 RT_10)))))))))
theorem RT_eq : f__law_right = runF 20 RT := rfl
def EE (n W : Nat) (T : Tree) (ts : List Int) (o7 o8 o9 o10 o11 o12 o13 o14 o15 o16 o17 o18 o19 : Option Val) : Env :=
  [some (.ref n), some (.d (.int W)), some (.d (TD T)), some (.d (.tup (ID ts))), some (.d (.lst ((fin T ts).rows.map Row.d))), some (.d (.bl (yesAt T (fin T ts).k))), some (.d (.lst (ND (fin T ts).way))), o7, o8, o9, o10, o11, o12, o13, o14, o15, o16, o17, o18, o19]
theorem okS_e {T lv ts} (w : WF T lv) (k : Nat) : okS (k + 4) (.tup ((fin T ts).rows.map Row.e)) := by
  have hr := rows_le w ts
  refine ⟨by simp; omega, fun e he => ?_⟩
  obtain ⟨r, hr', rfl⟩ := List.mem_map.mp he
  obtain ⟨i, hi⟩ := List.getElem?_of_mem hr'
  obtain ⟨_, _, _, _, a5⟩ := (fin_trace w ts).row i r hi
  refine ⟨by simp, fun x hx => ?_⟩
  simp only [List.mem_cons, List.not_mem_nil, or_false] at hx
  rcases hx with rfl | rfl | rfl | rfl
  · exact okS_side _
  · trivial
  · trivial
  · exact okS_ids (by omega)
theorem lst_of_ints (ts : List Int) : bLst [.tup (ID ts)] = some (.own (.lst (ID ts))) := rfl
theorem rt4 {T lv ts} (w : WF T lv) (hl : ts.length ≤ 5) (n W : Nat) (o7 o8 o9 o10 o11 o12 o13 o14 o15 o16 o18 o19 : Option Val) (ph : PH) :
    RT_4 (EE n W T ts o7 o8 o9 o10 o11 o12 o13 o14 o15 o16 none o18 o19) ph = .nx (EE n W T ts o7 o8 o9 o10 o11 o12 o13 o14 o15 o16 none o18 o19) ph := by
  have g1 := gone_over_ok w (by omega) (as_td w) (text_t (ts := ts) (by omega)) ph
  have g2 := gone_over_ok w (by omega) (as_tl w) (text_l (ts := ts) (by omega)) ph
  have g3 := lists_tree w ph
  have hr := rows_le w ts
  have c1 := comp_gen (gN 17) tYesX (eCut (eVar 17) (pAt (eC (.int 1))) pNo) (EE n W T ts o7 o8 o9 o10 o11 o12 o13 o14 o15 o16 none o18 o19) Row.d Row.e (fun _ => true)
    (fun r => EE n W T ts o7 o8 o9 o10 o11 o12 o13 o14 o15 o16 (some (.d r.d)) o18 o19) ph (fin T ts).rows [] (fun r hr => by
      refine ⟨rfl, rfl, fun _ => ⟨.d r.e, ?_, rfl⟩⟩
      simp [EE, Row.d, Row.e]
      rfl) (by simp; omega)
  rw [filter_t] at c1
  have sm := same_ok 12 (.lst [.tup ((fin T ts).rows.map Row.e), .tup ((fin T ts).rows.map Row.e)]) ⟨by simp, fun e he => by
    simp only [List.mem_cons, List.not_mem_nil, or_false] at he
    rcases he with rfl | rfl <;> exact okS_e w 7⟩ ph
  have dm : dMul (.lst [.tup ((fin T ts).rows.map Row.e)]) (.int 2) = some (.own (.lst [.tup ((fin T ts).rows.map Row.e), .tup ((fin T ts).rows.map Row.e)])) := rfl
  simp [EE] at c1
  simp [RT_4, EE, g1, g2, g3, lim, c1, dm, sm]
/-- what the law notes of each change -/
def isTo (T : Tree) (ts : List Int) (c : Chn) : Bool := (fin T ts).rows.any (tch ts c)
def isUo (T : Tree) (ts : List Int) (c : Chn) : Bool := yesAt T (fin T (beh ts c)).k != yesAt T (fin T ts).k
theorem hit_comp {T lv ts c} (w : WF T lv) (hl : ts.length ≤ 5) (hc : c.ok ts.length = true) (n W : Nat) (o7 o8 o9 o11 o12 o13 o14 o15 o18 o19 : Option Val) (ph : PH) :
    compL (gT 2 (gsCons (gN 16) (gsCons (gN 17) gsNil))) (tB (eCall f__law_touched (aCons (eVar 17) (aCons (eVar 3) (aCons (eVar 10) aNil))))) (eVar 16) (EE n W T ts o7 o8 o9 (some (.d (.tup c.row))) o11 o12 o13 o14 o15 none none o18 o19) (enumD 0 ((fin T ts).rows.map Row.d)) [] ph = .ok (ND (hits (tch ts c) (fin T ts).rows)) ph := by
  have hr := rows_le w ts
  have c2 := comp_gen (gT 2 (gsCons (gN 16) (gsCons (gN 17) gsNil))) (tB (eCall f__law_touched (aCons (eVar 17) (aCons (eVar 3) (aCons (eVar 10) aNil))))) (eVar 16)
    (EE n W T ts o7 o8 o9 (some (.d (.tup c.row))) o11 o12 o13 o14 o15 none none o18 o19) (fun q : Row × Nat => .tup [.int (q.2 : Nat), q.1.d]) (fun q => .int (q.2 : Nat)) (fun q => tch ts c q.1)
    (fun q => EE n W T ts o7 o8 o9 (some (.d (.tup c.row))) o11 o12 o13 o14 o15 (some (.d (.int (q.2 : Nat)))) (some (.d q.1.d)) o18 o19) ph (zi 0 (fin T ts).rows) [] (fun q hq => by
      obtain ⟨_, h2⟩ := zi_mem _ _ _ hq
      obtain ⟨_, _, _, a4, _⟩ := (fin_trace w ts).row _ _ h2
      have := ltouched_ok (by omega) hc q.1 a4.1 a4.2 ph
      exact ⟨rfl, by simp [EE, this], fun _ => ⟨.d (.int (q.2 : Nat)), rfl, rfl⟩⟩) (by rw [zi_len]; simp; omega)
  rw [← enum_zi] at c2
  have e : ((zi 0 (fin T ts).rows).filter fun q => tch ts c q.1).map (fun q => D.int (q.2 : Nat)) = ND (hits (tch ts c) (fin T ts).rows) := by
    unfold hits
    show _ = List.map (fun (k : Nat) => D.int (k : Int)) (List.map _ _)
    rw [List.map_map]; rfl
  rw [e] at c2
  simpa using c2
theorem turn1 {T lv ts c} (w : WF T lv) (hl : ts.length ≤ 5) (hc : c.ok ts.length = true) (n W : Nat) (tou trn : List Chn) (h1 : tou.length ≤ 500) (h2 : trn.length ≤ 500) (o7 o11 o12 o13 o14 o15 o18 o19 : Option Val) (ph : PH) :
    ∃ p11 p12 p13 p14, RT_6b (EE n W T ts o7 (some (.d (.lst (CD tou)))) (some (.d (.lst (CD trn)))) (some (.d (.tup c.row))) o11 o12 o13 o14 o15 none none o18 o19) ph =
      .nx (EE n W T ts o7 (some (.d (.lst (CD (tou ++ if isTo T ts c then [c] else []))))) (some (.d (.lst (CD (trn ++ if isUo T ts c then [c] else []))))) (some (.d (.tup c.row))) p11 p12 p13 p14 o15 none none o18 o19) ph := by
  have hb := beh_le hc
  have b := behind_ok (by omega) hc ph
  have r := law_run (ts := beh ts c) w (by omega) ph
  have hh := hit_comp w hl hc n W o7 (some (.d (.lst (CD tou)))) (some (.d (.lst (CD trn)))) (some (.d (.lst ((fin T (beh ts c)).rows.map Row.d)))) (some (.d (.bl (yesAt T (fin T (beh ts c)).k)))) (some (.d (.lst (ND (fin T (beh ts c)).way)))) o14 o15 o18 o19 ph
  have hn := ne_nil (hits (tch ts c) (fin T ts).rows)
  have he := eq_nil (hits (tch ts c) (fin T ts).rows)
  rw [hits_empty] at hn he
  refine ⟨some (.d (.lst ((fin T (beh ts c)).rows.map Row.d))), some (.d (.bl (yesAt T (fin T (beh ts c)).k))), some (.d (.lst (ND (fin T (beh ts c)).way))), some (.d (.lst (ND (hits (tch ts c) (fin T ts).rows)))), ?_⟩
  have hw : (fin T ts).way.length ≤ 1000 := by
    have o := (fin_ok w ts).1
    have := o.pl; have := o.klt; have := w.len
    unfold RS.way; simp; omega
  have ns := ne_self (okS_ndl (fin T ts).way hw 0) (by decide)
  have l1 : tou.length ≤ 1000000 := by omega
  have l2 : trn.length ≤ 1000000 := by omega
  have l3 : tou.length + 1 ≤ 1000000 := by omega
  have l4 : trn.length + 1 ≤ 1000000 := by omega
  simp [EE] at hh
  simp at hn he ns
  have hU : ∀ b, isUo T ts c = b → (yesAt T (fin T (beh ts c)).k == yesAt T (fin T ts).k) = !b := by
    intro b hb'
    rw [← hb']
    unfold isUo bne
    simp
  cases ht : isTo T ts c with
  | true =>
    have ht' : (fin T ts).rows.any (tch ts c) = true := ht
    rw [ht'] at hn he
    cases hu : isUo T ts c with
    | true =>
      have hu' := hU _ hu
      simp [RT_6b, RT_6b_1, RT_6b_2, RT_6b_3, RT_6b_4, RT_6b_5, EE, b, r, hh, hn, he, hu', dAdd_lst, lim, l1, l2, l3, l4]
    | false =>
      have hu' := hU _ hu
      simp [RT_6b, RT_6b_1, RT_6b_2, RT_6b_3, RT_6b_4, RT_6b_5, EE, b, r, hh, hn, he, hu', dAdd_lst, lim, l1, l2, l3, l4]
  | false =>
    have ht' : (fin T ts).rows.any (tch ts c) = false := ht
    rw [ht'] at hn he
    obtain ⟨e1, e2⟩ := untouched w hc (fun r hr => by
      rw [List.any_eq_false] at ht'
      simpa using ht' r hr)
    have hu : isUo T ts c = false := by unfold isUo; rw [e2]; simp
    have hu' := hU _ hu
    rw [e1] at r hh
    simp [RT_6b, RT_6b_1, RT_6b_2, RT_6b_3, RT_6b_4, RT_6b_5, EE, b, r, hh, hn, he, hu', dAdd_lst, lim, l1, l2, l3, l4, e1, ns, hu]
end Pyp

namespace Pyp
open PySem L2
theorem loop1 {T lv ts} (w : WF T lv) (hl : ts.length ≤ 5) (n W : Nat) (o7 o15 o18 o19 : Option Val) (ph : PH) : ∀ (cs : List Chn) (tou trn : List Chn) (o10 o11 o12 o13 o14 : Option Val), (∀ c ∈ cs, c.ok ts.length = true) → tou.length + cs.length ≤ 500 → trn.length + cs.length ≤ 500 →
    ∃ p10 p11 p12 p13 p14, forL (gN 10) RT_6b (CD cs) (EE n W T ts o7 (some (.d (.lst (CD tou)))) (some (.d (.lst (CD trn)))) o10 o11 o12 o13 o14 o15 none none o18 o19) ph =
      .nx (EE n W T ts o7 (some (.d (.lst (CD (tou ++ cs.filter (isTo T ts)))))) (some (.d (.lst (CD (trn ++ cs.filter (isUo T ts)))))) p10 p11 p12 p13 p14 o15 none none o18 o19) ph
  | [], tou, trn, o10, o11, o12, o13, o14, _, _, _ => ⟨o10, o11, o12, o13, o14, by simp⟩
  | c :: cs, tou, trn, o10, o11, o12, o13, o14, hc, l1, l2 => by
    rw [List.length_cons] at l1 l2
    obtain ⟨p11, p12, p13, p14, e⟩ := turn1 w hl (hc c List.mem_cons_self) n W tou trn (by omega) (by omega) o7 o11 o12 o13 o14 o15 o18 o19 ph
    have a1 : (tou ++ if isTo T ts c then [c] else []).length + cs.length ≤ 500 := by rw [List.length_append]; split <;> simp <;> omega
    have a2 : (trn ++ if isUo T ts c then [c] else []).length + cs.length ≤ 500 := by rw [List.length_append]; split <;> simp <;> omega
    obtain ⟨q10, q11, q12, q13, q14, e2⟩ := loop1 w hl n W o7 o15 o18 o19 ph cs _ _ (some (.d (.tup c.row))) p11 p12 p13 p14 (fun x hx => hc x (List.mem_cons_of_mem _ hx)) a1 a2
    refine ⟨q10, q11, q12, q13, q14, ?_⟩
    show forL (gN 10) RT_6b (.tup c.row :: CD cs) _ ph = _
    rw [forL_cons]
    show (match RT_6b (EE n W T ts o7 (some (.d (.lst (CD tou)))) (some (.d (.lst (CD trn)))) (some (.d (.tup c.row))) o11 o12 o13 o14 o15 none none o18 o19) ph with
      | .nx env2 ph2 => forL (gN 10) RT_6b (CD cs) env2 ph2
      | .ct env2 ph2 => forL (gN 10) RT_6b (CD cs) env2 ph2
      | .bk env2 ph2 => .nx env2 ph2
      | o => o) = _
    rw [e]
    show forL (gN 10) RT_6b (CD cs) _ ph = _
    rw [e2, List.append_assoc, List.append_assoc]
    have f1 : (if isTo T ts c then [c] else []) ++ cs.filter (isTo T ts) = (c :: cs).filter (isTo T ts) := by
      rw [List.filter_cons]; split <;> rfl
    have f2 : (if isUo T ts c then [c] else []) ++ cs.filter (isUo T ts) = (c :: cs).filter (isUo T ts) := by
      rw [List.filter_cons]; split <;> rfl
    rw [f1, f2]
theorem rt7 {T lv ts} {W : Nat} (hW : W = 2 ∨ W = 3) (w : WF T lv) (hl : ts.length ≤ 5) (n : Nat) (o7 o10 o11 o12 o13 o14 o15 o16 o17 o18 o19 : Option Val) (ph : PH) :
    RT_7 (EE n W T ts o7 (some (.d (.lst (CD ((chs W ts.length).filter (isTo T ts)))))) (some (.d (.lst (CD ((chs W ts.length).filter (isUo T ts)))))) o10 o11 o12 o13 o14 o15 o16 o17 o18 o19) ph = .nx (EE n W T ts o7 (some (.d (.lst (CD ((chs W ts.length).filter (isTo T ts)))))) (some (.d (.lst (CD ((chs W ts.length).filter (isUo T ts)))))) o10 o11 o12 o13 o14 o15 o16 o17 o18 o19) ph := by
  have g1 := can_turn_ok hW w hl (as_td w) (text_t (ts := ts) (by omega)) ph
  have g2 := turning_ok hW w hl (as_td w) (text_t (ts := ts) (by omega)) ph
  have g4 := turning_ok hW w hl (as_tl w) (text_l (ts := ts) (by omega)) ph
  have g3 := lists_tree w ph
  obtain ⟨k1, k2⟩ := chs_ok hW hl
  have n1 : ((chs W ts.length).filter (isTo T ts)).length ≤ 1000 := Nat.le_trans (List.length_filter_le _ _) (by omega)
  have n2 : ((chs W ts.length).filter (isUo T ts)).length ≤ 1000 := Nat.le_trans (List.length_filter_le _ _) (by omega)
  have sm := same_ok 12 (.lst [.tup (CD ((chs W ts.length).filter (isTo T ts))), .tup (CD ((chs W ts.length).filter (isUo T ts))), .tup (CD ((chs W ts.length).filter (isUo T ts)))]) ⟨by simp, fun e he => by
    simp only [List.mem_cons, List.not_mem_nil, or_false] at he
    rcases he with rfl | rfl | rfl
    · exact okS_cdt _ n1 8
    · exact okS_cdt _ n2 8
    · exact okS_cdt _ n2 8⟩ ph
  have q1 : ((chs W ts.length).filter fun c => (fin T ts).rows.any (tch ts c)) = (chs W ts.length).filter (isTo T ts) := rfl
  have q2 : ((chs W ts.length).filter fun c => yesAt T (fin T (beh ts c)).k != yesAt T (fin T ts).k) = (chs W ts.length).filter (isUo T ts) := rfl
  rw [q1] at g1
  rw [q2] at g2 g4
  generalize (chs W ts.length).filter (isTo T ts) = A at *
  generalize (chs W ts.length).filter (isUo T ts) = B at *
  simp [RT_7, EE, g1, g2, g3, g4, lim, sm]
theorem rt8 {T lv ts} {W : Nat} (hW : W = 2 ∨ W = 3) (w : WF T lv) (hl : ts.length ≤ 5) (n : Nat) (o7 o10 o11 o12 o13 o14 o15 o16 o18 o19 : Option Val) (ph : PH) :
    RT_8 (EE n W T ts o7 (some (.d (.lst (CD ((chs W ts.length).filter (isTo T ts)))))) (some (.d (.lst (CD ((chs W ts.length).filter (isUo T ts)))))) o10 o11 o12 o13 o14 o15 o16 none o18 o19) ph = .nx (EE n W T ts o7 (some (.d (.lst (CD ((chs W ts.length).filter (isTo T ts)))))) (some (.d (.lst (CD ((chs W ts.length).filter (isUo T ts)))))) o10 o11 o12 o13 o14 o15 o16 none o18 o19) ph := by
  obtain ⟨k1, k2⟩ := chs_ok hW hl
  have n1 : ((chs W ts.length).filter (isTo T ts)).length ≤ 1000 := Nat.le_trans (List.length_filter_le _ _) (by omega)
  have n2 : ((chs W ts.length).filter (isUo T ts)).length ≤ 1000 := Nat.le_trans (List.length_filter_le _ _) (by omega)
  have c1 := comp_gen (gN 17) (tB (eBin dNotIn (eVar 17) (eVar 8))) (eVar 17) (EE n W T ts o7 (some (.d (.lst (CD ((chs W ts.length).filter (isTo T ts)))))) (some (.d (.lst (CD ((chs W ts.length).filter (isUo T ts)))))) o10 o11 o12 o13 o14 o15 o16 none o18 o19)
    (fun c : Chn => .tup c.row) (fun c => .tup c.row) (fun _ => false) (fun c => EE n W T ts o7 (some (.d (.lst (CD ((chs W ts.length).filter (isTo T ts)))))) (some (.d (.lst (CD ((chs W ts.length).filter (isUo T ts)))))) o10 o11 o12 o13 o14 o15 o16 (some (.d (.tup c.row))) o18 o19) ph ((chs W ts.length).filter (isUo T ts)) [] (fun c hc => by
      obtain ⟨h1, h2⟩ := List.mem_filter.mp hc
      have ht : isTo T ts c = true := by
        cases hx : isTo T ts c with
        | true => rfl
        | false =>
          have hx' : (fin T ts).rows.any (tch ts c) = false := hx
          obtain ⟨_, e2⟩ := untouched w (k1 c h1) (fun r hr => by
            rw [List.any_eq_false] at hx'
            simpa using hx' r hr)
          unfold isUo at h2
          rw [e2] at h2
          simp at h2
      have hm : c ∈ (chs W ts.length).filter (isTo T ts) := List.mem_filter.mpr ⟨h1, ht⟩
      have hi : dNotIn (.tup c.row) (.lst (CD ((chs W ts.length).filter (isTo T ts)))) = some (.d (.bl false)) := by
        unfold dNotIn inB
        rw [if_pos ⟨okS_shp (okS_row c 1) (by decide), okS_shp (okS_cdl _ n1 1) (by decide)⟩]
        have : ((CD ((chs W ts.length).filter (isTo T ts))).any fun z => deq z (.tup c.row)) = true := by
          rw [List.any_eq_true]
          exact ⟨.tup c.row, List.mem_map.mpr ⟨c, hm, rfl⟩, okS_deq 3 _ (okS_row c 1)⟩
        show some (Val.d (.bl (!((CD ((chs W ts.length).filter (isTo T ts))).any fun z => deq z (.tup c.row))))) = _
        rw [this]; rfl
      refine ⟨rfl, ?_, fun h => nomatch h⟩
      simp only [EE]
      simp [hi]) (by simp; omega)
  have hf : ((chs W ts.length).filter (isUo T ts)).filter (fun _ => false) = [] := by simp
  rw [hf] at c1
  have nn : dNe (.lst []) (.lst []) = some (.d (.bl false)) := rfl
  generalize (chs W ts.length).filter (isTo T ts) = A at *
  generalize (chs W ts.length).filter (isUo T ts) = B at *
  simp [EE] at c1
  simp [RT_8, EE, c1, lim, nn]
theorem same_non (ph : PH) : f__law_same 12 [.d .non, .d .non] ph = .ok (.d (.bl true)) ph := by
  have h : dEq .non .non = some (.d (.bl true)) := rfl
  simp [f__law_same, isTy, dIs, isNonB, h]
theorem same_mv (o : Option Int) (ph : PH) : f__law_same 12 [.d (mvD o), .d (mvD o)] ph = .ok (.d (.bl true)) ph := by
  cases o with
  | none => exact same_non ph
  | some i => exact same_ok 12 (.int i) trivial ph
theorem rt9_67 {T : Tree} {ts : List Int} {c : Chn} (hl : ts.length ≤ 5) (hc : c.ok ts.length = true) {n W : Nat} {L : Int} {ph : PH} {d : D} (hd : ph[n]? = some d) (hu : Urn L d) (hL : L ≤ 100000) (o7 o8 o9 o11 o12 o13 o14 o15 o16 o17 o18 o19 : Option Val) :
    ∃ p19 d', (RT_9b_6 (EE n W T ts o7 o8 o9 (some (.d (.tup c.row))) o11 o12 o13 o14 o15 o16 o17 o18 o19) ph).bind RT_9b_7 = .nx (EE n W T ts o7 o8 o9 (some (.d (.tup c.row))) o11 o12 o13 o14 o15 o16 o17 o18 p19) (ph.set n d') ∧ Urn (L + 1) d' := by
  obtain ⟨p, d', e1, p0, p1, u1⟩ := take_ok (lo := (ts.length : Int) + 2) hd hu (by omega) (by omega) (by omega)
  have b := place_behind_ok (by omega) hc p0 (show p ≤ (ts.length : Int) + 1 by omega) (ph.set n d')
  have m := moved_ok c p (ph.set n d')
  have s := same_mv (mv c p) (ph.set n d')
  refine ⟨some (.d (.int p)), d', ?_, u1⟩
  simp [RT_9b_6, RT_9b_7, EE, e1, b, m, s]
end Pyp

namespace Pyp
open PySem L2
def hdR (r' r : Row) : Bool := deq (.tup [.int r'.sp, .str (wSide r'.sd), .tup (ID r'.ls)]) (.tup [.int r.sp, .str (wSide r.sd), .tup (ID r.ls)])
theorem okS_hd {r : Row} (h : r.ls.length ≤ 10) : okS 4 (.tup [.int r.sp, .str (wSide r.sd), .tup (ID r.ls)]) := ⟨by simp, fun e he => by
  simp only [List.mem_cons, List.not_mem_nil, or_false] at he
  rcases he with rfl | rfl | rfl
  · trivial
  · exact okS_side _
  · exact okS_ids (by omega)⟩
theorem ne_hd {r' r : Row} (h : r'.ls.length ≤ 10) (h2 : r.ls.length ≤ 10) : dNe (.tup [.int r'.sp, .str (wSide r'.sd), .tup (ID r'.ls)]) (.tup [.int r.sp, .str (wSide r.sd), .tup (ID r.ls)]) = some (.d (.bl (!hdR r' r))) := by
  unfold dNe
  rw [if_pos ⟨okS_shp (okS_hd h) (by decide), okS_shp (okS_hd h2) (by decide)⟩]; rfl
theorem hd_true {r' r : Row} (h : hdR r' r = true) : r'.sp = r.sp ∧ r'.sd = r.sd ∧ r'.ls = r.ls := by
  have h' : (((r'.sp : Int) == (r.sp : Int)) && ((wSide r'.sd == wSide r.sd) && (deqs (ID r'.ls) (ID r.ls) && true))) = true := h
  rw [deqs_ids] at h'
  simp only [Bool.and_eq_true, beq_iff_eq, Bool.and_true] at h'
  obtain ⟨h1, h2, h3⟩ := h'
  refine ⟨by omega, ?_, h3⟩
  cases e1 : r'.sd <;> cases e2 : r.sd <;> rw [e1, e2] at h2 <;> first | rfl | (exact absurd h2 (by decide))
def sameF (o : Option Int) (f : Int) : Bool := match o with
  | none => false
  | some q => f == q
theorem eq_mv (o : Option Int) (f : Int) : dEq (.int f) (mvD o) = some (.d (.bl (sameF o f))) := by cases o <;> rfl
theorem sameF_iff (o : Option Int) (f : Int) : sameF o f = true ↔ o = some f := by
  cases o with
  | none => simp [sameF]
  | some q => simp only [sameF, beq_iff_eq, Option.some.injEq]; exact eq_comm
def frst (ks : List Nat) (i : Nat) : Bool := (cI ks).take 1 == [(i : Int)]
theorem eq_first (ks : List Nat) (i : Nat) : dEq (.lst (cutL (ND ks) none (some 1))) (.lst [.int (i : Int)]) = some (.d (.bl (frst ks i))) := by
  have h : cutL (ND ks) none (some 1) = (ND ks).take 1 := cut_to (ND ks) 1
  rw [h, nd_id]
  have h2 : (ID (cI ks)).take 1 = ID ((cI ks).take 1) := by simp [List.map_take]
  have h3 : ([.int (i : Int)] : List D) = ID [(i : Int)] := rfl
  rw [h2, h3]
  unfold dEq
  rw [if_pos ⟨shp_lst _, shp_lst _⟩]
  show some (Val.d (.bl (deqs (ID ((cI ks).take 1)) (ID [(i : Int)])))) = _
  rw [deqs_ids]; rfl
theorem frst_true {ks : List Nat} {i : Nat} (h : frst ks i = true) : ks.take 1 = [i] := by
  unfold frst cI at h
  cases ks with
  | nil => cases h
  | cons a as =>
    have : (a : Int) = (i : Int) := by simpa using h
    have : a = i := by omega
    subst this
    simp
theorem inner {T lv ts c} (w : WF T lv) (hl : ts.length ≤ 5) (hc : c.ok ts.length = true) (n W : Nat) (o7 o8 o9 o12 o13 o17 o19 : Option Val) (ph : PH) : ∀ (k i : Nat) (o16 o18 : Option Val), i + k = min (fin T ts).rows.length (fin T (beh ts c)).rows.length →
    (∀ j, j < i → ∃ r r', (fin T ts).rows[j]? = some r ∧ (fin T (beh ts c)).rows[j]? = some r' ∧ r'.sp = r.sp ∧ r'.sd = r.sd ∧ r'.ls = r.ls) →
    ∃ p16 p18, forL (gN 16) RT_9b_5b (rngD (i : Int) k) (EE n W T ts o7 o8 o9 (some (.d (.tup c.row))) (some (.d (.lst ((fin T (beh ts c)).rows.map Row.d)))) o12 o13 (some (.own (.lst (ND (hits (tch ts c) (fin T ts).rows))))) (some (.own (.lst (ND (agn ts c (fin T ts).rows))))) o16 o17 o18 o19) ph =
      .nx (EE n W T ts o7 o8 o9 (some (.d (.tup c.row))) (some (.d (.lst ((fin T (beh ts c)).rows.map Row.d)))) o12 o13 (some (.own (.lst (ND (hits (tch ts c) (fin T ts).rows))))) (some (.own (.lst (ND (agn ts c (fin T ts).rows))))) p16 o17 p18 o19) ph
  | 0, i, o16, o18, _, _ => ⟨o16, o18, rfl⟩
  | k + 1, i, o16, o18, hk, hag => by
    have hi1 : i < (fin T ts).rows.length := by omega
    have hi2 : i < (fin T (beh ts c)).rows.length := by omega
    obtain ⟨r, hr⟩ : ∃ r, (fin T ts).rows[i]? = some r := ⟨_, List.getElem?_eq_getElem hi1⟩
    obtain ⟨r', hr'⟩ : ∃ r', (fin T (beh ts c)).rows[i]? = some r' := ⟨_, List.getElem?_eq_getElem hi2⟩
    have a1 : atI ((fin T ts).rows.map Row.d) (i : Int) = some (.tup [.int r.sp, .str (wSide r.sd), .int r.near, .int r.far, .tup (ID r.ls)]) := atI_in (j := i) rfl (by rw [List.getElem?_map, hr]; rfl)
    have a2 : atI ((fin T (beh ts c)).rows.map Row.d) (i : Int) = some (.tup [.int r'.sp, .str (wSide r'.sd), .int r'.near, .int r'.far, .tup (ID r'.ls)]) := atI_in (j := i) rfl (by rw [List.getElem?_map, hr']; rfl)
    have n1 := ne_hd (r' := r') (r := r) ((fin_trace w (beh ts c)).row i r' hr').2.2.2.2 ((fin_trace w ts).row i r hr).2.2.2.2
    have c1 : ((i + 1 : Nat) : Int) = (i : Int) + 1 := by omega
    rw [rngD, forL_cons]
    have step : (RT_9b_5b (EE n W T ts o7 o8 o9 (some (.d (.tup c.row))) (some (.d (.lst ((fin T (beh ts c)).rows.map Row.d)))) o12 o13 (some (.own (.lst (ND (hits (tch ts c) (fin T ts).rows))))) (some (.own (.lst (ND (agn ts c (fin T ts).rows))))) (some (.d (.int (i : Int)))) o17 o18 o19) ph =
          .bk (EE n W T ts o7 o8 o9 (some (.d (.tup c.row))) (some (.d (.lst ((fin T (beh ts c)).rows.map Row.d)))) o12 o13 (some (.own (.lst (ND (hits (tch ts c) (fin T ts).rows))))) (some (.own (.lst (ND (agn ts c (fin T ts).rows))))) (some (.d (.int (i : Int)))) o17 o18 o19) ph) ∨
        ((r'.sp = r.sp ∧ r'.sd = r.sd ∧ r'.ls = r.ls) ∧ ∃ p18, RT_9b_5b (EE n W T ts o7 o8 o9 (some (.d (.tup c.row))) (some (.d (.lst ((fin T (beh ts c)).rows.map Row.d)))) o12 o13 (some (.own (.lst (ND (hits (tch ts c) (fin T ts).rows))))) (some (.own (.lst (ND (agn ts c (fin T ts).rows))))) (some (.d (.int (i : Int)))) o17 o18 o19) ph =
          .nx (EE n W T ts o7 o8 o9 (some (.d (.tup c.row))) (some (.d (.lst ((fin T (beh ts c)).rows.map Row.d)))) o12 o13 (some (.own (.lst (ND (hits (tch ts c) (fin T ts).rows))))) (some (.own (.lst (ND (agn ts c (fin T ts).rows))))) (some (.d (.int (i : Int)))) o17 p18 o19) ph) := by
      cases hh : hdR r' r with
      | false =>
        left
        rw [hh] at n1
        simp [RT_9b_5b, RT_9b_5b_1, EE, a1, a2, at4, n1, lim]
      | true =>
        right
        have heq := hd_true hh
        rw [hh] at n1
        have ag : Agr (fin T ts).rows (fin T (beh ts c)).rows i := fun j hj => by
          by_cases hji : j < i
          · exact hag j hji
          · have : j = i := by omega
            subst this
            exact ⟨r, r', hr, hr', heq⟩
        have hhit : ∀ (j : Nat) (q : Row), (fin T ts).rows[j]? = some q → inN (hits (tch ts c) (fin T ts).rows) (j : Int) = tch ts c q := fun j q hq => hits_at hq
        have m1 := moved_ok c r.far ph
        have m2 := eq_mv (mv c r.far) r'.far
        have i1 := dNotIn_ndl (i : Int) (agn ts c (fin T ts).rows)
        have f1 := eq_first (hits (tch ts c) (fin T ts).rows) i
        refine ⟨heq, some (.d (.bl (sameF (mv c r.far) r'.far))), ?_⟩
        cases hS : sameF (mv c r.far) r'.far with
        | true =>
          have hmv := (sameF_iff _ _).mp hS
          have hF : frst (hits (tch ts c) (fin T ts).rows) i = false := by
            cases hx : frst (hits (tch ts c) (fin T ts).rows) i with
            | false => rfl
            | true =>
              obtain ⟨g1, g2⟩ := hits_first (frst_true hx)
              exact absurd hmv (first_moves w hc (fun j => inN (hits (tch ts c) (fin T ts).rows) (j : Int)) hhit i ag r r' hr hr' g1 g2)
          rw [hS] at m2
          rw [hF] at f1
          cases hN : inN (agn ts c (fin T ts).rows) (i : Int) with
          | true =>
            rw [hN] at i1
            simp at i1 f1
            simp [RT_9b_5b, RT_9b_5b_1, RT_9b_5b_2, RT_9b_5b_3, EE, a1, a2, at3, at4, n1, lim, m1, m2, i1, f1]
          | false =>
            rw [hN] at i1
            simp at i1 f1
            simp [RT_9b_5b, RT_9b_5b_1, RT_9b_5b_2, RT_9b_5b_3, EE, a1, a2, at3, at4, n1, lim, m1, m2, i1, f1]
        | false =>
          have hN : inN (agn ts c (fin T ts).rows) (i : Int) = true := by
            cases hx : inN (agn ts c (fin T ts).rows) (i : Int) with
            | true => rfl
            | false =>
              have hn : i ∉ agn ts c (fin T ts).rows := fun hm => by
                rw [(inN_iff _ _).mpr hm] at hx; cases hx
              have := stays w hc (fun j => inN (hits (tch ts c) (fin T ts).rows) (j : Int)) hhit i ag r r' hr hr' hn
              rw [(sameF_iff _ _).mpr this] at hS; cases hS
          rw [hS] at m2
          rw [hN] at i1
          simp at i1 f1
          cases hF : frst (hits (tch ts c) (fin T ts).rows) i with
          | true =>
            rw [hF] at f1
            simp [RT_9b_5b, RT_9b_5b_1, RT_9b_5b_2, RT_9b_5b_3, EE, a1, a2, at3, at4, n1, lim, m1, m2, i1, f1]
          | false =>
            rw [hF] at f1
            simp [RT_9b_5b, RT_9b_5b_1, RT_9b_5b_2, RT_9b_5b_3, EE, a1, a2, at3, at4, n1, lim, m1, m2, i1, f1]
    rcases step with hb | ⟨heq, p18, hb⟩
    · refine ⟨some (.d (.int (i : Int))), o18, ?_⟩
      show (match RT_9b_5b (EE n W T ts o7 o8 o9 (some (.d (.tup c.row))) (some (.d (.lst ((fin T (beh ts c)).rows.map Row.d)))) o12 o13 (some (.own (.lst (ND (hits (tch ts c) (fin T ts).rows))))) (some (.own (.lst (ND (agn ts c (fin T ts).rows))))) (some (.d (.int (i : Int)))) o17 o18 o19) ph with
        | .nx env2 ph2 => forL (gN 16) RT_9b_5b (rngD ((i : Int) + 1) k) env2 ph2
        | .ct env2 ph2 => forL (gN 16) RT_9b_5b (rngD ((i : Int) + 1) k) env2 ph2
        | .bk env2 ph2 => .nx env2 ph2
        | o => o) = _
      rw [hb]
    · obtain ⟨q16, q18, e⟩ := inner w hl hc n W o7 o8 o9 o12 o13 o17 o19 ph k (i + 1) (some (.d (.int (i : Int)))) p18 (by omega) (fun j hj => by
        by_cases hji : j < i
        · exact hag j hji
        · have : j = i := by omega
          subst this
          exact ⟨r, r', hr, hr', heq⟩)
      refine ⟨q16, q18, ?_⟩
      show (match RT_9b_5b (EE n W T ts o7 o8 o9 (some (.d (.tup c.row))) (some (.d (.lst ((fin T (beh ts c)).rows.map Row.d)))) o12 o13 (some (.own (.lst (ND (hits (tch ts c) (fin T ts).rows))))) (some (.own (.lst (ND (agn ts c (fin T ts).rows))))) (some (.d (.int (i : Int)))) o17 o18 o19) ph with
        | .nx env2 ph2 => forL (gN 16) RT_9b_5b (rngD ((i : Int) + 1) k) env2 ph2
        | .ct env2 ph2 => forL (gN 16) RT_9b_5b (rngD ((i : Int) + 1) k) env2 ph2
        | .bk env2 ph2 => .nx env2 ph2
        | o => o) = _
      rw [hb]
      rw [c1] at e
      exact e
end Pyp

namespace Pyp
open PySem L2
theorem rt9_12 {T lv ts c} (w : WF T lv) (hl : ts.length ≤ 5) (hc : c.ok ts.length = true) (n W : Nat) (o7 o8 o9 o11 o12 o13 o14 o15 o16 o17 o18 o19 : Option Val) (ph : PH) :
    ∃ p16 p17, (RT_9b_1 (EE n W T ts o7 o8 o9 (some (.d (.tup c.row))) o11 o12 o13 o14 o15 o16 o17 o18 o19) ph).bind RT_9b_2 = .nx (EE n W T ts o7 o8 o9 (some (.d (.tup c.row))) o11 o12 o13 (some (.own (.lst (ND (hits (tch ts c) (fin T ts).rows))))) (some (.own (.lst (ND (agn ts c (fin T ts).rows))))) p16 p17 o18 o19) ph := by
  have hh := hit_comp w hl hc n W o7 o8 o9 o11 o12 o13 o14 o15 o18 o19 ph
  have hr := rows_le w ts
  obtain ⟨p, p', c2⟩ := again_loop (gT 2 (gsCons (gN 16) (gsCons (gN 17) gsNil))) RT_9b_2b Row.d (fun i => inN (hits (tch ts c) (fin T ts).rows) (i : Int))
    (fun acc o o' => EE n W T ts o7 o8 o9 (some (.d (.tup c.row))) o11 o12 o13 (some (.own (.lst (ND (hits (tch ts c) (fin T ts).rows))))) (some (.own (.lst (ND acc)))) o o' o18 o19) ph
    (fun i r acc o o' ha => by
      refine ⟨EE n W T ts o7 o8 o9 (some (.d (.tup c.row))) o11 o12 o13 (some (.own (.lst (ND (hits (tch ts c) (fin T ts).rows))))) (some (.own (.lst (ND acc)))) (some (.d (.int (i : Nat)))) (some (.d r.d)) o18 o19, some (.d (.int (i : Nat))), some (.d r.d), rfl, ?_⟩
      have i1 := dIn_ndl (i : Int) (hits (tch ts c) (fin T ts).rows)
      have i2 := dIn_ndl ((r.sp : Int) - 2) acc
      have hacc : acc.length < 1000000 := by omega
      cases h1 : inN (hits (tch ts c) (fin T ts).rows) (i : Int) with
      | true =>
        rw [h1] at i1
        try simp at i1
        simp [RT_9b_2b, EE, i1, sMut, fApp, Row.d, lim, hacc]
      | false =>
        rw [h1] at i1
        try simp at i1
        cases h2 : inN acc ((r.sp : Int) - 2) with
        | true =>
          rw [h2] at i2
          try simp at i2
          simp [RT_9b_2b, EE, i1, i2, sMut, fApp, Row.d, lim, hacc]
        | false =>
          rw [h2] at i2
          try simp at i2
          simp [RT_9b_2b, EE, i1, i2, sMut, fApp, Row.d, lim, hacc]) (fin T ts).rows 0 [] o16 o17 (by simp; omega)
  refine ⟨p, p', ?_⟩
  simp [EE] at hh c2
  simp [RT_9b_1, RT_9b_2, EE, hh, lim]
  rw [c2]
theorem rt9_3 {T lv ts c} (w : WF T lv) (hl : ts.length ≤ 5) (hc : c.ok ts.length = true) (n W : Nat) (o7 o8 o9 o11 o12 o13 o16 o17 o18 o19 : Option Val) (ph : PH) :
    RT_9b_3 (EE n W T ts o7 o8 o9 (some (.d (.tup c.row))) o11 o12 o13 (some (.own (.lst (ND (hits (tch ts c) (fin T ts).rows))))) (some (.own (.lst (ND (agn ts c (fin T ts).rows))))) o16 o17 o18 o19) ph = .nx (EE n W T ts o7 o8 o9 (some (.d (.tup c.row))) o11 o12 o13 (some (.own (.lst (ND (hits (tch ts c) (fin T ts).rows))))) (some (.own (.lst (ND (agn ts c (fin T ts).rows))))) o16 o17 o18 o19) ph := by
  have g1 := touched_by_ok w hl hc (as_td w) (text_t (ts := ts) (by omega)) (tup_row c) ph
  have g2 := asked_again_ok w hl hc (as_tl w) (text_l (ts := ts) (by omega)) (lst_row c) ph
  have g3 := lists_tree w ph
  have hr := rows_le w ts
  have l1 := hits_len (tch ts c) (fin T ts).rows
  have l2 : (agn ts c (fin T ts).rows).length ≤ 0 + (fin T ts).rows.length := again_len (fun i => inN (hits (tch ts c) (fin T ts).rows) (i : Int)) (fin T ts).rows 0 []
  have sm := same_ok 12 (.lst [.tup (ND (hits (tch ts c) (fin T ts).rows)), .tup (ND (agn ts c (fin T ts).rows))]) ⟨by simp, fun e he => by
    simp only [List.mem_cons, List.not_mem_nil, or_false] at he
    rcases he with rfl | rfl
    · exact okS_ndt _ (by omega) 9
    · exact okS_ndt _ (by omega) 9⟩ ph
  generalize hits (tch ts c) (fin T ts).rows = A at *
  generalize agn ts c (fin T ts).rows = B at *
  try simp at g1 g2 sm
  simp [RT_9b_3, EE, g1, g2, g3, lim, sm]
theorem turn2 {T : Tree} {lv : Nat → Nat} {ts : List Int} {c : Chn} (w : WF T lv) (hl : ts.length ≤ 5) (hc : c.ok ts.length = true) {n W : Nat} {L : Int} {ph : PH} {d : D} (hd : ph[n]? = some d) (hu : Urn L d) (hL : L ≤ 100000) (o7 o8 o9 o11 o12 o13 o14 o15 o16 o17 o18 o19 : Option Val) :
    ∃ p11 p14 p15 p16 p17 p18 p19 d', RT_9b (EE n W T ts o7 o8 o9 (some (.d (.tup c.row))) o11 o12 o13 o14 o15 o16 o17 o18 o19) ph = .nx (EE n W T ts o7 o8 o9 (some (.d (.tup c.row))) p11 o12 o13 p14 p15 p16 p17 p18 p19) (ph.set n d') ∧ Urn (L + 1) d' := by
  obtain ⟨q16, q17, e1⟩ := rt9_12 w hl hc n W o7 o8 o9 o11 o12 o13 o14 o15 o16 o17 o18 o19 ph
  have e3 := rt9_3 w hl hc n W o7 o8 o9 o11 o12 o13 q16 q17 o18 o19 ph
  have hb := beh_le hc
  have b := behind_ok (by omega) hc ph
  have r := law_run (ts := beh ts c) w (by omega) ph
  have e4 : RT_9b_4 (EE n W T ts o7 o8 o9 (some (.d (.tup c.row))) o11 o12 o13 (some (.own (.lst (ND (hits (tch ts c) (fin T ts).rows))))) (some (.own (.lst (ND (agn ts c (fin T ts).rows))))) q16 q17 o18 o19) ph =
      .nx (EE n W T ts o7 o8 o9 (some (.d (.tup c.row))) (some (.d (.lst ((fin T (beh ts c)).rows.map Row.d)))) o12 o13 (some (.own (.lst (ND (hits (tch ts c) (fin T ts).rows))))) (some (.own (.lst (ND (agn ts c (fin T ts).rows))))) q16 q17 o18 o19) ph := by
    simp [RT_9b_4, EE, b, r]
  obtain ⟨q16', q18, e5⟩ := inner w hl hc n W o7 o8 o9 o12 o13 q17 o19 ph (min (fin T ts).rows.length (fin T (beh ts c)).rows.length) 0 q16 o18 (by omega) (fun j hj => absurd hj (Nat.not_lt_zero _))
  have r1 := rows_le w ts
  have r2 := rows_le w (beh ts c)
  have mi : (if (fin T (beh ts c)).rows.length < (fin T ts).rows.length then ((fin T (beh ts c)).rows.length : Int) else ((fin T ts).rows.length : Int)) = ((min (fin T ts).rows.length (fin T (beh ts c)).rows.length : Nat) : Int) := by split <;> omega
  have ok := okR_of (i := ((min (fin T ts).rows.length (fin T (beh ts c)).rows.length : Nat) : Int)) (by omega) (by omega)
  have e5' : RT_9b_5 (EE n W T ts o7 o8 o9 (some (.d (.tup c.row))) (some (.d (.lst ((fin T (beh ts c)).rows.map Row.d)))) o12 o13 (some (.own (.lst (ND (hits (tch ts c) (fin T ts).rows))))) (some (.own (.lst (ND (agn ts c (fin T ts).rows))))) q16 q17 o18 o19) ph =
      .nx (EE n W T ts o7 o8 o9 (some (.d (.tup c.row))) (some (.d (.lst ((fin T (beh ts c)).rows.map Row.d)))) o12 o13 (some (.own (.lst (ND (hits (tch ts c) (fin T ts).rows))))) (some (.own (.lst (ND (agn ts c (fin T ts).rows))))) q16' q17 q18 o19) ph := by
    simp [EE] at e5
    simp [RT_9b_5, EE]
    rw [mi, ok]
    simp
    rw [e5]
  obtain ⟨p19, d', e6, u⟩ := rt9_67 (T := T) hl hc hd hu hL o7 o8 o9 (some (.d (.lst ((fin T (beh ts c)).rows.map Row.d)))) o12 o13 (some (.own (.lst (ND (hits (tch ts c) (fin T ts).rows))))) (some (.own (.lst (ND (agn ts c (fin T ts).rows))))) q16' q17 q18 o19 (W := W)
  refine ⟨some (.d (.lst ((fin T (beh ts c)).rows.map Row.d))), some (.own (.lst (ND (hits (tch ts c) (fin T ts).rows)))), some (.own (.lst (ND (agn ts c (fin T ts).rows)))), q16', q17, q18, p19, d', ?_, u⟩
  have assoc : ∀ (o : Out) (f g : Sx), (o.bind f).bind g = o.bind (fun env ph => (f env ph).bind g) := fun o f g => by cases o <;> rfl
  show (RT_9b_1 _ ph).bind (fun env ph => (RT_9b_2 env ph).bind fun env ph => (RT_9b_3 env ph).bind fun env ph => (RT_9b_4 env ph).bind fun env ph => (RT_9b_5 env ph).bind fun env ph => (RT_9b_6 env ph).bind RT_9b_7) = _
  rw [← assoc, e1, Out.bind_nx, e3, Out.bind_nx, e4, Out.bind_nx, e5', Out.bind_nx]
  exact e6
theorem loop2 {T lv ts} (w : WF T lv) (hl : ts.length ≤ 5) {n W : Nat} (o7 o8 o9 o12 o13 : Option Val) : ∀ (cs : List Chn) (L : Int) (ph : PH) (d : D) (o10 o11 o14 o15 o16 o17 o18 o19 : Option Val), ph[n]? = some d → Urn L d → L + cs.length ≤ 100000 → (∀ c ∈ cs, c.ok ts.length = true) →
    ∃ p10 p11 p14 p15 p16 p17 p18 p19 d', forL (gN 10) RT_9b (CD cs) (EE n W T ts o7 o8 o9 o10 o11 o12 o13 o14 o15 o16 o17 o18 o19) ph = .nx (EE n W T ts o7 o8 o9 p10 p11 o12 o13 p14 p15 p16 p17 p18 p19) (ph.set n d')
  | [], L, ph, d, o10, o11, o14, o15, o16, o17, o18, o19, hd, hu, hL, hc => ⟨o10, o11, o14, o15, o16, o17, o18, o19, d, by rw [set_self hd]; rfl⟩
  | c :: cs, L, ph, d, o10, o11, o14, o15, o16, o17, o18, o19, hd, hu, hL, hc => by
    rw [List.length_cons] at hL
    have hn : n < ph.length := (List.getElem?_eq_some_iff.mp hd).1
    obtain ⟨p11, p14, p15, p16, p17, p18, p19, d1, e1, u1⟩ := turn2 w hl (hc c List.mem_cons_self) (W := W) hd hu (by omega) o7 o8 o9 o11 o12 o13 o14 o15 o16 o17 o18 o19
    obtain ⟨q10, q11, q14, q15, q16, q17, q18, q19, d2, e2⟩ := loop2 w hl (W := W) o7 o8 o9 o12 o13 cs (L + 1) (ph.set n d1) d1 (some (.d (.tup c.row))) p11 p14 p15 p16 p17 p18 p19 (List.getElem?_set_self hn) u1 (by omega) (fun x hx => hc x (List.mem_cons_of_mem _ hx))
    refine ⟨q10, q11, q14, q15, q16, q17, q18, q19, d2, ?_⟩
    show forL (gN 10) RT_9b (.tup c.row :: CD cs) _ ph = _
    rw [forL_cons]
    show (match RT_9b (EE n W T ts o7 o8 o9 (some (.d (.tup c.row))) o11 o12 o13 o14 o15 o16 o17 o18 o19) ph with
      | .nx env2 ph2 => forL (gN 10) RT_9b (CD cs) env2 ph2
      | .ct env2 ph2 => forL (gN 10) RT_9b (CD cs) env2 ph2
      | .bk env2 ph2 => .nx env2 ph2
      | o => o) = _
    rw [e1]
    show forL (gN 10) RT_9b (CD cs) _ (ph.set n d1) = _
    rw [e2, List.set_set]
theorem right_ok {n : Nat} {d : D} {ph : PH} (hd : ph[n]? = some d) (hu : Urn 0 d) : ∃ ph', f__law_right [.ref n] ph = .ok (.d (.bl true)) ph' := by
  have hn : n < ph.length := (List.getElem?_eq_some_iff.mp hd).1
  obtain ⟨q, d1, e1, q0, q1, u1⟩ := take_ok (lo := 2) hd hu (by decide) (by decide) (by decide)
  obtain ⟨W, hW'⟩ : ∃ W : Nat, 2 + q = W := ⟨(2 + q).toNat, by omega⟩
  have hW : W = 2 ∨ W = 3 := by omega
  obtain ⟨T, lv, d2, e2, w, u2⟩ := tree_ok hW (n := n) (ph := ph.set n d1) (List.getElem?_set_self hn) u1 (by decide)
  obtain ⟨ts, d3, e3, l3, x3, u3⟩ := text_ok (lo := (W : Int)) (most := 5) (by omega) (by omega) (by decide) (by decide) (n := n) (ph := ph.set n d2) (List.getElem?_set_self hn) (u2.up (Int.le_refl _)) (by decide)
  have hl : ts.length ≤ 5 := by omega
  rw [List.set_set] at e2 e3
  have e4 := law_run (ts := ts) w (by omega) (ph.set n d3)
  have s4 := rt4 w hl n W none none none none none none none none none none none none (ph.set n d3)
  have e5 := law_changes_ok hW hl (ph.set n d3)
  obtain ⟨k1, k2⟩ := chs_ok hW hl
  obtain ⟨p10, p11, p12, p13, p14, s6⟩ := loop1 w hl n W (some (.d (.lst (CD (chs W ts.length))))) none none none (ph.set n d3) (chs W ts.length) [] [] none none none none none k1 (by simp; omega) (by simp; omega)
  have s7 := rt7 hW w hl n (some (.d (.lst (CD (chs W ts.length))))) p10 p11 p12 p13 p14 none none none none none (ph.set n d3)
  have s8 := rt8 hW w hl n (some (.d (.lst (CD (chs W ts.length))))) p10 p11 p12 p13 p14 none none none none (ph.set n d3)
  obtain ⟨rs, d4, e9, l9, f9, u9⟩ := pick_ok (n := n) (ph := ph.set n d3) (List.getElem?_set_self hn) u3 (by decide) (gs := CD (chs W ts.length)) (by simpa using k2) (m := 4) (by decide) (fun x => ∃ c : Chn, x = .tup c.row ∧ c.ok ts.length = true) (fun x hx => by
    obtain ⟨c, hc, rfl⟩ := List.mem_map.mp hx
    exact ⟨c, rfl, k1 c hc⟩)
  obtain ⟨cs, rfl, hcs⟩ : ∃ cs : List Chn, rs = CD cs ∧ ∀ c ∈ cs, c.ok ts.length = true := by
    clear e9 l9
    induction rs with
    | nil => exact ⟨[], rfl, fun _ h => nomatch h⟩
    | cons x xs ih =>
      obtain ⟨c, rfl, hc⟩ := f9 x List.mem_cons_self
      obtain ⟨cs, rfl, h⟩ := ih fun y hy => f9 y (List.mem_cons_of_mem _ hy)
      exact ⟨c :: cs, rfl, fun y hy => by
        rcases List.mem_cons.mp hy with rfl | hy
        · exact hc
        · exact h y hy⟩
  have hcl : cs.length ≤ 4 := by simp at l9; omega
  obtain ⟨r10, r11, r14, r15, r16, r17, r18, r19, d5, s9⟩ := loop2 w hl (W := W) (some (.d (.lst (CD (chs W ts.length))))) (some (.d (.lst (CD ((chs W ts.length).filter (isTo T ts)))))) (some (.d (.lst (CD ((chs W ts.length).filter (isUo T ts)))))) p12 p13 cs _ (ph.set n d4) d4 p10 p11 p14 none none none none none (List.getElem?_set_self hn) (by have := u9; rw [List.set_set] at e9; exact this) (by omega) hcs
  refine ⟨(ph.set n d4).set n d5, ?_⟩
  have t1 : RT_1 ([some (.ref n)] ++ List.replicate 19 none) ph = .nx ([some (.ref n), some (.d (.int W))] ++ List.replicate 18 none) (ph.set n d1) := by
    simp [RT_1, e1, hW']
  have t2 : RT_2 ([some (.ref n), some (.d (.int W))] ++ List.replicate 18 none) (ph.set n d1) = .nx ([some (.ref n), some (.d (.int W)), some (.d (TD T)), some (.d (.tup (ID ts)))] ++ List.replicate 16 none) (ph.set n d3) := by
    simp [RT_2, e2, e3, lim]
  have t3 : RT_3 ([some (.ref n), some (.d (.int W)), some (.d (TD T)), some (.d (.tup (ID ts)))] ++ List.replicate 16 none) (ph.set n d3) = .nx (EE n W T ts none none none none none none none none none none none none none) (ph.set n d3) := by
    simp [RT_3, e4, EE]
  have t5 : RT_5 (EE n W T ts none none none none none none none none none none none none none) (ph.set n d3) = .nx (EE n W T ts (some (.d (.lst (CD (chs W ts.length))))) (some (.d (.lst (CD [])))) (some (.d (.lst (CD [])))) none none none none none none none none none none) (ph.set n d3) := by
    simp [RT_5, EE, e5, lim]
  have t6 : RT_6 (EE n W T ts (some (.d (.lst (CD (chs W ts.length))))) (some (.d (.lst (CD [])))) (some (.d (.lst (CD [])))) none none none none none none none none none none) (ph.set n d3) = .nx (EE n W T ts (some (.d (.lst (CD (chs W ts.length))))) (some (.d (.lst (CD ((chs W ts.length).filter (isTo T ts)))))) (some (.d (.lst (CD ((chs W ts.length).filter (isUo T ts)))))) p10 p11 p12 p13 p14 none none none none none) (ph.set n d3) := by
    rw [List.nil_append, List.nil_append] at s6
    rw [← s6]
    rfl
  have t9 : RT_9 (EE n W T ts (some (.d (.lst (CD (chs W ts.length))))) (some (.d (.lst (CD ((chs W ts.length).filter (isTo T ts)))))) (some (.d (.lst (CD ((chs W ts.length).filter (isUo T ts)))))) p10 p11 p12 p13 p14 none none none none none) (ph.set n d3) = .nx (EE n W T ts (some (.d (.lst (CD (chs W ts.length))))) (some (.d (.lst (CD ((chs W ts.length).filter (isTo T ts)))))) (some (.d (.lst (CD ((chs W ts.length).filter (isUo T ts)))))) r10 r11 p12 p13 r14 r15 r16 r17 r18 r19) ((ph.set n d4).set n d5) := by
    rw [List.set_set] at e9
    have e9' : f__law_pick [.ref n, .d (.lst (CD (chs W ts.length))), .d (.int 4)] (ph.set n d3) = .ok (.d (.lst (CD cs))) (ph.set n d4) := e9
    simp [EE] at e9' s9
    simp [RT_9, EE, e9']
    exact s9
  rw [RT_eq]
  have t0 : RT ([some (.ref n)] ++ List.replicate 19 none) ph = .ret (.d (.bl true)) ((ph.set n d4).set n d5) := by
    show (RT_1 _ ph).bind (fun env ph => (RT_2 env ph).bind fun env ph => (RT_3 env ph).bind fun env ph => (RT_4 env ph).bind fun env ph => (RT_5 env ph).bind fun env ph => (RT_6 env ph).bind fun env ph => (RT_7 env ph).bind fun env ph => (RT_8 env ph).bind fun env ph => (RT_9 env ph).bind RT_10) = _
    rw [t1, Out.bind_nx, t2, Out.bind_nx, t3, Out.bind_nx, s4, Out.bind_nx, t5, Out.bind_nx, t6, Out.bind_nx, s7, Out.bind_nx, s8, Out.bind_nx, t9, Out.bind_nx]
    rfl
  rw [runF_s]
  show (match RT ([some (.ref n)] ++ List.replicate 19 none) ph with
    | .ret v ph' => Res.ok v ph'
    | .nx _ ph' => .ok (.d .non) ph'
    | .exc c fs _ ph' => .exc c fs ph'
    | _ => .bad) = _
  rw [t0]
theorem cells_loop (ns : List Int) : ∀ (rest : List Int) (i : Nat) (z : Int) (o3 o4 o5 : Option Val) (ph : PH), i + rest.length ≤ 100 →
    ∃ z' g3 g4 g5, forL (gT 2 (gsCons (gN 3) (gsCons (gN 4) gsNil))) (sSeq (sSet 5 (eBin dMod (eB bInt (aCons (eVar 3) aNil)) (eVar 1))) (sPut 2 (eVar 5) (eBin dAdd (eBin dIx (eVar 2) (eVar 5)) (eBin dMul (eVar 4) (eBin dAdd (eVar 3) (eC (.int 2))))))) (enumD i (ID rest))
      [some (.d (.fz ns)), some (.d (.int 1)), some (.own (.lst [.int z])), o3, o4, o5] ph = .nx [some (.d (.fz ns)), some (.d (.int 1)), some (.own (.lst [.int z'])), g3, g4, g5] ph
  | [], i, z, o3, o4, o5, ph, _ => ⟨z, o3, o4, o5, rfl⟩
  | x :: rest, i, z, o3, o4, o5, ph, hl => by
    have m : mulOk x ((i : Int) + 2) = true := mul_r (by omega) (by simp at hl; omega)
    have e0 : (i : Int) % 1 = 0 := Int.emod_one _
    obtain ⟨z', g3, g4, g5, e⟩ := cells_loop ns rest (i + 1) (z + x * ((i : Int) + 2)) (some (.d (.int i))) (some (.d (.int x))) (some (.d (.int 0))) ph (by simp at hl; omega)
    refine ⟨z', g3, g4, g5, ?_⟩
    show forL _ _ (.tup [.int i, .int x] :: enumD (i + 1) (ID rest)) _ ph = _
    rw [forL_cons]
    simp [e0, m, ixN]
    exact e
theorem cells_ok {ns : List Int} (hl : ns.length ≤ 63) (ph : PH) : ∃ z, f__law_cells [.d (.fz ns), .d (.int 1)] ph = .ok (.d (.lst [.int z])) ph := by
  have c0 : cutL ns none (some 1) = ns.take 1 := cut_to ns 1
  have hr := cutL_le ns (some 1) (some 63)
  cases ns with
  | nil =>
    obtain ⟨z', g3, g4, g5, e⟩ := cells_loop [] (cutL [] (some 1) (some 63)) 0 0 none none none ph (by decide)
    refine ⟨z', ?_⟩
    simp [f__law_cells, c0, orEnd, truD, lim]
    have e' : forL _ _ (enumD 0 (ID (cutL ([] : List Int) (some 1) (some 63)))) _ ph = _ := e
    simp [e']
  | cons a as =>
    obtain ⟨z', g3, g4, g5, e⟩ := cells_loop (a :: as) (cutL (a :: as) (some 1) (some 63)) 0 a none none none ph (by simp at hr hl ⊢; omega)
    refine ⟨z', ?_⟩
    simp [f__law_cells, c0, orEnd, truD, lim, e]
theorem box_ok (z : Int) (ph : PH) : ∃ d, f__law_box [.d (.lst [.int z]), .d (.int 0)] ph = .ok (.own d) ph ∧ Urn 0 d := by
  have m1 : mulOk 39373 0 = true := rfl
  have hp : dPow (.int 10) (.int 18) = some (.d (.int 1000000000000000000)) := rfl
  have b0 := Int.emod_nonneg z (show (2305843009213693951 : Int) ≠ 0 by decide)
  have b1 := Int.emod_lt_of_pos z (show (0 : Int) < 2305843009213693951 by decide)
  have hy : 0 ≤ (if z < 0 then -z else z) := by split <;> omega
  by_cases hb : 1000000000000000000 ≤ (if z < 0 then -z else z)
  · have m2 : mulOk (if z < 0 then -z else z) 1 = true := mul_r (by decide) (by decide)
    refine ⟨.lst [.int (if z < 0 then -z else z), .int (z % 2305843009213693951 + 1318542), .int 0], ?_, ⟨_, _, _, rfl, hy, by omega, by omega, by decide, by decide⟩⟩
    simp [f__law_box, hp, hb, m1, m2, lim]
  · have m2 : mulOk (if z < 0 then -z else z) 0 = true := mul_r (by decide) (by decide)
    refine ⟨.lst [.int 0, .int (z % 2305843009213693951 + 1318542), .int 0], ?_, ⟨_, _, _, rfl, by decide, by omega, by omega, by decide, by decide⟩⟩
    simp [f__law_box, hp, hb, m1, m2, lim]
theorem pure_law (ns : List Int) (hl : ns.length ≤ 63) : ∃ ph, f_law [.d (.fz ns)] [] = .ok (.d (.bl true)) ph := by
  obtain ⟨ph1, e1⟩ := okT_ok byhand
  obtain ⟨z, e2⟩ := cells_ok hl ph1
  obtain ⟨d, e3, u⟩ := box_ok z ph1
  obtain ⟨ph2, e4⟩ := right_ok (n := ph1.length) (ph := ph1 ++ [d]) (by simp) u
  refine ⟨ph2.dropLast, ?_⟩
  simp [f_law, e1, e2, e3, e4]
end Pyp

namespace Pyp
open PySem PySem.Spec PyProof.Rows L2
def top (i : Nat) : Stmt := PySem.Challenge.pw_turnedasks_k26_whole_changes_by_plain_ru.main.body.getD i (.Pass ⟨0, 0, 0, 0⟩)
theorem sc__law_found : FnScope ["word_so", "place_so", "side", "letters_so", "places_so", "k"] ["word_so", "place_so", "side", "letters_so"] (defScope (top 36)) := ⟨rfl, rfl, rfl, by decide +kernel, rfl, by decide +kernel, by decide +kernel⟩
theorem sc__law_run : FnScope ["tree_so", "word_so", "spots", "rows", "k", "way_so", "knot", "far", "one", "two"] ["tree_so", "word_so"] (defScope (top 41)) := ⟨rfl, rfl, rfl, by decide +kernel, rfl, by decide +kernel, by decide +kernel⟩
theorem sc__law_take : FnScope ["urn", "low_so", "took", "once", "far", "twice"] ["urn", "low_so"] (defScope (top 28)) := ⟨rfl, rfl, rfl, by decide +kernel, rfl, by decide +kernel, by decide +kernel⟩
theorem sc__law_pick : FnScope ["urn", "some", "count", "pool", "found_so", "lap"] ["urn", "some", "count"] (defScope (top 31)) := ⟨rfl, rfl, rfl, by decide +kernel, rfl, by decide +kernel, by decide +kernel⟩
theorem sc__law_of : FnScope ["urn", "some_so"] ["urn", "some_so"] (defScope (top 30)) := ⟨rfl, rfl, rfl, by decide +kernel, rfl, by decide +kernel, by decide +kernel⟩
theorem sc__law_letters_of : FnScope ["urn", "wide", "picked"] ["urn", "wide"] (defScope (top 35)) := ⟨rfl, rfl, rfl, by decide +kernel, rfl, by decide +kernel, by decide +kernel⟩
theorem sc__law_ask : FnScope ["urn", "wide", "many_so", "then_so"] ["urn", "wide", "many_so", "then_so"] (defScope (top 38)) := ⟨rfl, rfl, rfl, by decide +kernel, rfl, by decide +kernel, by decide +kernel⟩
theorem sc__law_order : FnScope ["urn", "many_so", "goes_so", "two"] ["urn", "many_so", "goes_so"] (defScope (top 39)) := ⟨rfl, rfl, rfl, by decide +kernel, rfl, by decide +kernel, by decide +kernel⟩
theorem sc__law_tree : FnScope ["urn", "wide", "found_so", "n", "k"] ["urn", "wide"] (defScope (top 40)) := ⟨rfl, rfl, rfl, by decide +kernel, rfl, by decide +kernel, by decide +kernel⟩
theorem sc__law_text : FnScope ["urn", "wide", "most_so", "lap"] ["urn", "wide", "most_so"] (defScope (top 34)) := ⟨rfl, rfl, rfl, by decide +kernel, rfl, by decide +kernel, by decide +kernel⟩
theorem sc__law_same : FnScope ["near", "goal", "mine_so", "own"] ["near", "goal"] (defScope (top 33)) := ⟨rfl, rfl, rfl, by decide +kernel, rfl, by decide +kernel, by decide +kernel⟩
theorem sc__law_changes : FnScope ["wide", "n", "found_so", "k", "s"] ["wide", "n"] (defScope (top 45)) := ⟨rfl, rfl, rfl, by decide +kernel, rfl, by decide +kernel, by decide +kernel⟩
theorem sc__law_behind_change : FnScope ["word_so", "change", "k"] ["word_so", "change"] (defScope (top 42)) := ⟨rfl, rfl, rfl, by decide +kernel, rfl, by decide +kernel, by decide +kernel⟩
theorem sc_tuple_of : FnScope ["thing", "part"] ["thing"] (defScope (top 2)) := ⟨rfl, rfl, rfl, by decide +kernel, rfl, by decide +kernel, by decide +kernel⟩
theorem sc_is_number : FnScope ["thing"] ["thing"] (defScope (top 1)) := ⟨rfl, rfl, rfl, by decide +kernel, rfl, by decide +kernel, by decide +kernel⟩
theorem sc_sure_place : FnScope ["text", "place"] ["text", "place"] (defScope (top 6)) := ⟨rfl, rfl, rfl, by decide +kernel, rfl, by decide +kernel, by decide +kernel⟩
theorem sc_next_place : FnScope ["text", "place", "letters", "own"] ["text", "place", "letters"] (defScope (top 7)) := ⟨rfl, rfl, rfl, by decide +kernel, rfl, by decide +kernel, by decide +kernel⟩
theorem sc_last_place : FnScope ["text", "place", "letters", "own"] ["text", "place", "letters"] (defScope (top 8)) := ⟨rfl, rfl, rfl, by decide +kernel, rfl, by decide +kernel, by decide +kernel⟩
theorem sc_found : FnScope ["text", "place", "side", "letters"] ["text", "place", "side", "letters"] (defScope (top 11)) := ⟨rfl, rfl, rfl, by decide +kernel, rfl, by decide +kernel, by decide +kernel⟩
theorem sc_gone : FnScope ["tree", "text", "own", "letters", "knots", "spots", "knot", "one", "other"] ["tree", "text"] (defScope (top 13)) := ⟨rfl, rfl, rfl, by decide +kernel, rfl, by decide +kernel, by decide +kernel⟩
theorem sc_run : FnScope ["tree", "text", "knots", "spots"] ["tree", "text"] (defScope (top 14)) := ⟨rfl, rfl, rfl, by decide +kernel, rfl, by decide +kernel, by decide +kernel⟩
theorem sc_way_of : FnScope ["tree", "text"] ["tree", "text"] (defScope (top 16)) := ⟨rfl, rfl, rfl, by decide +kernel, rfl, by decide +kernel, by decide +kernel⟩
theorem sc_gone_over : FnScope ["tree", "text", "own", "spots", "_", "asks", "knot", "number", "spot", "side", "letters"] ["tree", "text"] (defScope (top 18)) := ⟨rfl, rfl, rfl, by decide +kernel, rfl, by decide +kernel, by decide +kernel⟩
theorem sc__law_moved : FnScope ["change", "place_so"] ["change", "place_so"] (defScope (top 43)) := ⟨rfl, rfl, rfl, by decide +kernel, rfl, by decide +kernel, by decide +kernel⟩
theorem sc__law_touched : FnScope ["row", "word_so", "change", "near", "far"] ["row", "word_so", "change"] (defScope (top 44)) := ⟨rfl, rfl, rfl, by decide +kernel, rfl, by decide +kernel, by decide +kernel⟩
theorem sc_changes_of : FnScope ["wide", "text", "many", "letters", "found", "place", "letter"] ["wide", "text"] (defScope (top 22)) := ⟨rfl, rfl, rfl, by decide +kernel, rfl, by decide +kernel, by decide +kernel⟩
theorem sc_is_touched : FnScope ["stretch", "change", "_", "near", "far", "letters", "word", "place", "more", "low", "high"] ["stretch", "change"] (defScope (top 19)) := ⟨rfl, rfl, rfl, by decide +kernel, rfl, by decide +kernel, by decide +kernel⟩
theorem sc_can_turn : FnScope ["wide", "tree", "text", "stretches", "own", "stretch"] ["wide", "tree", "text"] (defScope (top 23)) := ⟨rfl, rfl, rfl, by decide +kernel, rfl, by decide +kernel, by decide +kernel⟩
theorem sc_answer : FnScope ["tree", "text"] ["tree", "text"] (defScope (top 15)) := ⟨rfl, rfl, rfl, by decide +kernel, rfl, by decide +kernel, by decide +kernel⟩
theorem sc_changed : FnScope ["text", "change", "own", "word", "place", "letter", "most"] ["text", "change"] (defScope (top 9)) := ⟨rfl, rfl, rfl, by decide +kernel, rfl, by decide +kernel, by decide +kernel⟩
theorem sc_turning : FnScope ["wide", "tree", "text", "yes", "own"] ["wide", "tree", "text"] (defScope (top 24)) := ⟨rfl, rfl, rfl, by decide +kernel, rfl, by decide +kernel, by decide +kernel⟩
theorem sc_place_behind : FnScope ["text", "change", "place", "word", "there"] ["text", "change", "place"] (defScope (top 25)) := ⟨rfl, rfl, rfl, by decide +kernel, rfl, by decide +kernel, by decide +kernel⟩
theorem sc__law_lists : FnScope ["matter", "bit"] ["matter"] (defScope (top 32)) := ⟨rfl, rfl, rfl, by decide +kernel, rfl, by decide +kernel, by decide +kernel⟩
theorem sc_touched_by : FnScope ["tree", "text", "change", "own", "number", "stretch"] ["tree", "text", "change"] (defScope (top 20)) := ⟨rfl, rfl, rfl, by decide +kernel, rfl, by decide +kernel, by decide +kernel⟩
theorem sc_asked_again : FnScope ["tree", "text", "change", "touched", "own", "found", "asks", "number", "ask", "knot"] ["tree", "text", "change"] (defScope (top 21)) := ⟨rfl, rfl, rfl, by decide +kernel, rfl, by decide +kernel, by decide +kernel⟩
theorem sc__law_right : FnScope ["urn", "wide", "tree_so", "word_so", "rows", "yes", "way_so", "changes_so", "touching", "turned_so", "change", "later", "mine", "knots_so", "hit", "again_so", "k", "own", "stays_so", "place_so"] ["urn"] (defScope (top 46)) := ⟨rfl, rfl, rfl, by decide +kernel, rfl, by decide +kernel, by decide +kernel⟩
theorem sc__law_front_right : FnScope ["early", "word_so", "got", "own"] [] (defScope (top 37)) := ⟨rfl, rfl, rfl, by decide +kernel, rfl, by decide +kernel, by decide +kernel⟩
theorem sc__law_box : FnScope ["script", "k", "bit_so"] ["script", "k"] (defScope (top 27)) := ⟨rfl, rfl, rfl, by decide +kernel, rfl, by decide +kernel, by decide +kernel⟩
theorem sc__law_cells : FnScope ["script", "roof_so", "bits_so", "k", "bit_so", "at_so"] ["script", "roof_so"] (defScope (top 29)) := ⟨rfl, rfl, rfl, by decide +kernel, rfl, by decide +kernel, by decide +kernel⟩
theorem sc_law : FnScope ["script"] ["script"] (defScope (top 47)) := ⟨rfl, rfl, rfl, by decide +kernel, rfl, by decide +kernel, by decide +kernel⟩
structure Txt (K : PySem.W.Frag) (mg : Str → Option Value) : Prop where
  d__law_found : DefAt K mg "_law_found" (top 36) ["word_so", "place_so", "side", "letters_so"]
  d__law_run : DefAt K mg "_law_run" (top 41) ["tree_so", "word_so"]
  d__law_take : DefAt K mg "_law_take" (top 28) ["urn", "low_so"]
  d__law_pick : DefAt K mg "_law_pick" (top 31) ["urn", "some", "count"]
  d__law_of : DefAt K mg "_law_of" (top 30) ["urn", "some_so"]
  d__law_letters_of : DefAt K mg "_law_letters_of" (top 35) ["urn", "wide"]
  d__law_ask : DefAt K mg "_law_ask" (top 38) ["urn", "wide", "many_so", "then_so"]
  d__law_order : DefAt K mg "_law_order" (top 39) ["urn", "many_so", "goes_so"]
  d__law_tree : DefAt K mg "_law_tree" (top 40) ["urn", "wide"]
  d__law_text : DefAt K mg "_law_text" (top 34) ["urn", "wide", "most_so"]
  d__law_same : DefAt K mg "_law_same" (top 33) ["near", "goal"]
  d__law_changes : DefAt K mg "_law_changes" (top 45) ["wide", "n"]
  d__law_behind_change : DefAt K mg "_law_behind_change" (top 42) ["word_so", "change"]
  d_tuple_of : DefAt K mg "tuple_of" (top 2) ["thing"]
  d_is_number : DefAt K mg "is_number" (top 1) ["thing"]
  d_sure_place : DefAt K mg "sure_place" (top 6) ["text", "place"]
  d_next_place : DefAt K mg "next_place" (top 7) ["text", "place", "letters"]
  d_last_place : DefAt K mg "last_place" (top 8) ["text", "place", "letters"]
  d_found : DefAt K mg "found" (top 11) ["text", "place", "side", "letters"]
  d_gone : DefAt K mg "gone" (top 13) ["tree", "text"]
  d_run : DefAt K mg "run" (top 14) ["tree", "text"]
  d_way_of : DefAt K mg "way_of" (top 16) ["tree", "text"]
  d_gone_over : DefAt K mg "gone_over" (top 18) ["tree", "text"]
  d__law_moved : DefAt K mg "_law_moved" (top 43) ["change", "place_so"]
  d__law_touched : DefAt K mg "_law_touched" (top 44) ["row", "word_so", "change"]
  d_changes_of : DefAt K mg "changes_of" (top 22) ["wide", "text"]
  d_is_touched : DefAt K mg "is_touched" (top 19) ["stretch", "change"]
  d_can_turn : DefAt K mg "can_turn" (top 23) ["wide", "tree", "text"]
  d_answer : DefAt K mg "answer" (top 15) ["tree", "text"]
  d_changed : DefAt K mg "changed" (top 9) ["text", "change"]
  d_turning : DefAt K mg "turning" (top 24) ["wide", "tree", "text"]
  d_place_behind : DefAt K mg "place_behind" (top 25) ["text", "change", "place"]
  d__law_lists : DefAt K mg "_law_lists" (top 32) ["matter"]
  d_touched_by : DefAt K mg "touched_by" (top 20) ["tree", "text", "change"]
  d_asked_again : DefAt K mg "asked_again" (top 21) ["tree", "text", "change"]
  d__law_right : DefAt K mg "_law_right" (top 46) ["urn"]
  d__law_front_right : DefAt K mg "_law_front_right" (top 37) []
  d__law_box : DefAt K mg "_law_box" (top 27) ["script", "k"]
  d__law_cells : DefAt K mg "_law_cells" (top 29) ["script", "roof_so"]
  b_abs : mg "abs" = none
  b_all : mg "all" = none
  b_any : mg "any" = none
  b_bool : mg "bool" = none
  b_enumerate : mg "enumerate" = none
  b_int : mg "int" = none
  b_isinstance : mg "isinstance" = none
  b_len : mg "len" = none
  b_list : mg "list" = none
  b_max : mg "max" = none
  b_min : mg "min" = none
  b_range : mg "range" = none
  b_sorted : mg "sorted" = none
  b_str : mg "str" = none
  b_tuple : mg "tuple" = none
  b_zip : mg "zip" = none
section
variable {P : Program} {w : World} {K : PySem.W.Frag} {mg : Str → Option Value} {base : Heap}
theorem fn__law_found (T : Txt K mg) : FnAt P w K mg base 1 "_law_found" 4 f__law_found := T.d__law_found.fn sc__law_found fun f cdv A outer s H E hr => (b_cons (st_if (t_cmp (o_eq hr.units) (s_var 2) (s_str [110, 101, 120, 116]))
    (b_cons (st_setLc [("k", 5)] rfl sc__law_found.nd (blkOk_by (N := ["word_so", "place_so", "side", "letters_so", "places_so", "k"]) (sc := defScope (top 36)) (by decide +kernel)) rfl rfl (sw_true rfl rfl rfl (by decide +kernel)) (i_range2 false (a_cons (s_bin o_add (s_var 1) s_int) (a_cons (s_bin o_add (s_bl1 b_len T.b_len (by rfl) (a_cons (s_var 0) a_nil)) s_int) a_nil)) T.b_range) (fun j h => by first | simpa using h | (simp at h ⊢; omega)) (fun _ _ _ _ _ => (g_name 5 sc__law_found.nd)) (fun _ _ _ _ _ => (ts_one (t_cmp (o_in (Room.u65 hr)) (s_ix (s_var 0) (s_bin o_sub (s_var 5) s_int)) (s_var 3)))) (fun _ _ _ _ _ => (s_var 5)))
    (b_one (st_ret (s_if (t_cmp (o_ne hr.units) (s_var 4) (s_lst a_nil)) (s_ix (s_var 4) s_int) (s_bin o_add (s_bl1 b_len T.b_len (by rfl) (a_cons (s_var 0) a_nil)) s_int)))))
    b_nil)
  (b_cons (st_setLc [("k", 5)] rfl sc__law_found.nd (blkOk_by (N := ["word_so", "place_so", "side", "letters_so", "places_so", "k"]) (sc := defScope (top 36)) (by decide +kernel)) rfl rfl (sw_true rfl rfl rfl (by decide +kernel)) (i_range2 false (a_cons s_int (a_cons (s_var 1) a_nil)) T.b_range) (fun j h => by first | simpa using h | (simp at h ⊢; omega)) (fun _ _ _ _ _ => (g_name 5 sc__law_found.nd)) (fun _ _ _ _ _ => (ts_one (t_cmp (o_in (Room.u65 hr)) (s_ix (s_var 0) (s_bin o_sub (s_var 5) s_int)) (s_var 3)))) (fun _ _ _ _ _ => (s_var 5)))
  (b_one (st_ret (s_if (t_cmp (o_ne hr.units) (s_var 4) (s_lst a_nil)) (s_ix (s_var 4) (s_neg s_int)) s_int)))))
theorem fn__law_run (T : Txt K mg) : FnAt P w K mg base 2 "_law_run" 2 f__law_run := T.d__law_run.fn sc__law_run fun f cdv A outer s H E hr => (b_cons (st_parN 4 rfl sc__law_run.nd (NGs.cons 2 (NGs.cons 3 (NGs.cons 4 (NGs.cons 5 NGs.nil)))) (SEs.cons (s_lst (a_cons s_int (a_cons (s_bin o_add (s_bl1 b_len T.b_len (by rfl) (a_cons (s_var 1) a_nil)) s_int) a_nil))) (SEs.cons (s_lst a_nil) (SEs.cons s_int (SEs.cons (s_lst (a_cons s_int a_nil)) SEs.nil)))))
  (b_cons (st_while 100000 (passes_of rfl) (t_cmp (o_ne hr.units) (s_ix (s_ix (s_var 0) (s_var 4)) s_int) (s_str [115, 97, 121]))
    (b_cons (st_set sc__law_run.nd rfl (.inl rfl) (s_ix (s_var 0) (s_var 4)))
    (b_cons (st_if (t_cmp (o_eq hr.units) (s_ix (s_var 6) s_int) (s_str [97, 115, 107]))
      (b_cons (st_set sc__law_run.nd rfl (.inl rfl) (s_call (fn__law_found T) (hr.mono (by decide)) (takes_of rfl rfl rfl rfl) (a_cons (s_var 1) (a_cons (s_ix (s_var 2) (s_ix (s_var 6) s_int)) (a_cons (s_ix (s_var 6) s_int) (a_cons (s_ix (s_var 6) s_int) a_nil)))) (hlen := (len_cons (len_cons (len_cons (len_cons len_nil)))))))
      (b_cons (st_mut F.slot_list_append (by rfl) m_app 3 (a_cons (s_tup (a_cons (s_ix (s_var 6) s_int) (a_cons (s_ix (s_var 6) s_int) (a_cons (s_ix (s_var 2) (s_ix (s_var 6) s_int)) (a_cons (s_var 7) (a_cons (s_ix (s_var 6) s_int) a_nil)))))) a_nil))
      (b_cons (st_mut F.slot_list_append (by rfl) m_app 2 (a_cons (s_var 7) a_nil))
      (b_one (st_set sc__law_run.nd rfl (.inl rfl) (s_ix (s_var 6) s_int))))))
      (b_cons (st_par2 rfl sc__law_run.nd rfl rfl (by decide) rfl rfl (a_cons (s_ix (s_var 2) (s_ix (s_var 6) s_int)) (a_cons (s_ix (s_var 2) (s_ix (s_var 6) s_int)) a_nil)) (by rfl))
      (b_one (st_set sc__law_run.nd rfl (.inl rfl) (s_if (t_cmp (o_lt hr.units) (s_var 8) (s_var 9)) (s_ix (s_var 6) s_int) (s_if (t_cmp (o_eq hr.units) (s_var 8) (s_var 9)) (s_ix (s_var 6) s_int) (s_ix (s_var 6) s_int)))))))
    (b_one (st_mut F.slot_list_append (by rfl) m_app 5 (a_cons (s_var 4) a_nil))))))
  (st_fz 5 (st_fz 3 (b_one (st_ret (s_tup (a_cons (s_var 3) (a_cons (s_ix (s_ix (s_var 0) (s_var 4)) s_int) (a_cons (s_var 5) a_nil))))))))))
theorem fn__law_take (T : Txt K mg) : FnAt P w K mg base 1 "_law_take" 2 f__law_take := T.d__law_take.fn sc__law_take fun f cdv A outer s H E hr => (b_cons (st_if (t_cmp (o_gt hr.units) (s_ix (s_var 0) s_int) s_int)
    (b_cons (st_set sc__law_take.nd rfl (.inl rfl) (s_bin o_mod (s_ty1 b_int T.b_int (by rfl) (a_cons (s_ix (s_var 0) s_int) a_nil)) (s_var 1)))
    (b_cons (st_put 0 s_int (s_bin o_div (s_ix (s_var 0) s_int) (s_var 1)))
    (b_one (st_ret (s_var 2)))))
    b_nil)
  (b_cons (st_put 0 s_int (s_bin o_add (s_ix (s_var 0) s_int) s_int))
  (b_cons (st_set sc__law_take.nd rfl (.inl rfl) (s_bin o_mod (s_ty1 b_int T.b_int (by rfl) (a_cons (s_bin o_mul (s_bin o_add (s_ix (s_var 0) s_int) (s_bin o_mul s_int (s_ix (s_var 0) s_int))) (s_bin o_add s_int (s_ix (s_var 0) s_int))) a_nil)) s_int))
  (b_cons (st_set sc__law_take.nd rfl (.inl rfl) (s_bin o_add (s_bin o_mod (s_ty1 b_int T.b_int (by rfl) (a_cons (s_var 3) a_nil)) s_int) s_int))
  (b_cons (st_set sc__law_take.nd rfl (.inl rfl) (s_bin o_mod (s_ty1 b_int T.b_int (by rfl) (a_cons (s_bin o_mul (s_bin o_add (s_bin o_add (s_var 3) (s_ix (s_var 0) s_int)) (s_bin o_div (s_ix (s_var 0) s_int) s_int)) (s_var 4)) a_nil)) s_int))
  (b_one (st_ret (s_bin o_mod (s_ty1 b_int T.b_int (by rfl) (a_cons (s_bin o_div (s_bin o_mod (s_ty1 b_int T.b_int (by rfl) (a_cons (s_bin o_add (s_bin o_mul (s_var 5) s_int) (s_var 3)) a_nil)) s_int) s_int) a_nil)) (s_var 1)))))))))
theorem fn__law_pick (T : Txt K mg) : FnAt P w K mg base 2 "_law_pick" 3 f__law_pick := T.d__law_pick.fn sc__law_pick fun f cdv A outer s H E hr => (b_cons (st_parV rfl sc__law_pick.nd rfl rfl (by decide) rfl rfl (s_ty1 b_lst T.b_list (by rfl) (a_cons (s_var 1) a_nil)) (s_lst a_nil) (by rfl))
  (b_cons (st_for (passes_of rfl) rfl (i_range1 true (a_cons (s_bl1 (b_min rfl) T.b_min (by rfl) (a_cons (s_ty1 b_int T.b_int (by rfl) (a_cons (s_var 2) a_nil)) (a_cons (s_bl1 b_len T.b_len (by rfl) (a_cons (s_var 3) a_nil)) a_nil))) a_nil) T.b_range) (g_name 5 sc__law_pick.nd)
    (b_one (st_appPop F.slot_list_append F.slot_list_pop (by rfl) (by rfl) 4 3 (by decide) (a_cons (s_call (fn__law_take T) (hr.mono (by decide)) (takes_of rfl rfl rfl rfl) (a_cons (s_var 0) (a_cons (s_bl1 b_len T.b_len (by rfl) (a_cons (s_var 3) a_nil)) a_nil)) (hlen := (len_cons (len_cons len_nil)))) a_nil))))
  (st_fz 4 (b_one (st_ret (s_var 4))))))
theorem fn__law_of (T : Txt K mg) : FnAt P w K mg base 2 "_law_of" 2 f__law_of := T.d__law_of.fn sc__law_of fun f cdv A outer s H E hr => (b_one (st_ret (s_ix (s_var 1) (s_call (fn__law_take T) (hr.mono (by decide)) (takes_of rfl rfl rfl rfl) (a_cons (s_var 0) (a_cons (s_bl1 b_len T.b_len (by rfl) (a_cons (s_var 1) a_nil)) a_nil)) (hlen := (len_cons (len_cons len_nil)))))))
theorem fn__law_letters_of (T : Txt K mg) : FnAt P w K mg base 3 "_law_letters_of" 2 f__law_letters_of := T.d__law_letters_of.fn sc__law_letters_of fun f cdv A outer s H E hr => (b_cons (st_set sc__law_letters_of.nd rfl (.inl rfl) (s_sortI T.b_sorted (s_call (fn__law_pick T) (hr.mono (by decide)) (takes_of rfl rfl rfl rfl) (a_cons (s_var 0) (a_cons (s_lrg2 rfl T.b_list T.b_range s_int (s_bin o_add (s_var 1) s_int)) (a_cons (s_bin o_add s_int (s_call (fn__law_take T) (hr.mono (by decide)) (takes_of rfl rfl rfl rfl) (a_cons (s_var 0) (a_cons (s_var 1) a_nil)) (hlen := (len_cons (len_cons len_nil))))) a_nil))) (hlen := (len_cons (len_cons (len_cons len_nil)))))))
  (b_one (st_ret (s_ty1 b_tup T.b_tuple (by rfl) (a_cons (s_var 2) a_nil)))))
theorem fn__law_ask (T : Txt K mg) : FnAt P w K mg base 4 "_law_ask" 4 f__law_ask := T.d__law_ask.fn sc__law_ask fun f cdv A outer s H E hr => (b_one (st_ret (s_tup (a_cons (s_str [97, 115, 107]) (a_cons (s_call (fn__law_take T) (hr.mono (by decide)) (takes_of rfl rfl rfl rfl) (a_cons (s_var 0) (a_cons (s_bin o_add (s_var 2) s_int) a_nil)) (hlen := (len_cons (len_cons len_nil)))) (a_cons (s_call (fn__law_of T) (hr.mono (by decide)) (takes_of rfl rfl rfl rfl) (a_cons (s_var 0) (a_cons (s_lst (a_cons (s_str [110, 101, 120, 116]) (a_cons (s_str [108, 97, 115, 116]) a_nil))) a_nil)) (hlen := (len_cons (len_cons len_nil)))) (a_cons (s_call (fn__law_letters_of T) (hr.mono (by decide)) (takes_of rfl rfl rfl rfl) (a_cons (s_var 0) (a_cons (s_var 1) a_nil)) (hlen := (len_cons (len_cons len_nil)))) (a_cons (s_var 3) a_nil))))))))
theorem fn__law_order (T : Txt K mg) : FnAt P w K mg base 3 "_law_order" 3 f__law_order := T.d__law_order.fn sc__law_order fun f cdv A outer s H E hr => (b_cons (st_set sc__law_order.nd rfl (.inl rfl) (s_call (fn__law_pick T) (hr.mono (by decide)) (takes_of rfl rfl rfl rfl) (a_cons (s_var 0) (a_cons (s_lrg1 rfl T.b_list T.b_range (s_bin o_add (s_var 1) s_int)) (a_cons s_int a_nil))) (hlen := (len_cons (len_cons (len_cons len_nil))))))
  (b_one (st_ret (s_bin o_add (s_tup (a_cons (s_str [111, 114, 100, 101, 114]) (a_cons (s_ix (s_var 3) s_int) (a_cons (s_ix (s_var 3) s_int) a_nil)))) (s_ty1 b_tup T.b_tuple (by rfl) (a_cons (s_call (fn__law_pick T) (hr.mono (by decide)) (takes_of rfl rfl rfl rfl) (a_cons (s_var 0) (a_cons (s_var 2) (a_cons s_int a_nil))) (hlen := (len_cons (len_cons (len_cons len_nil))))) a_nil))))))
theorem fn__law_tree (T : Txt K mg) : FnAt P w K mg base 5 "_law_tree" 2 f__law_tree := T.d__law_tree.fn sc__law_tree fun f cdv A outer s H E hr => (b_cons (st_if (t_cmp (o_eq hr.units) (s_call (fn__law_take T) (hr.mono (by decide)) (takes_of rfl rfl rfl rfl) (a_cons (s_var 0) (a_cons s_int a_nil)) (hlen := (len_cons (len_cons len_nil)))) s_int)
    (b_cons (st_set sc__law_tree.nd rfl (.inl rfl) (s_lst (a_cons (s_call (fn__law_ask T) (hr.mono (by decide)) (takes_of rfl rfl rfl rfl) (a_cons (s_var 0) (a_cons (s_var 1) (a_cons s_int (a_cons s_int a_nil)))) (hlen := (len_cons (len_cons (len_cons (len_cons len_nil)))))) (a_cons (s_call (fn__law_order T) (hr.mono (by decide)) (takes_of rfl rfl rfl rfl) (a_cons (s_var 0) (a_cons s_int (a_cons (s_lst (a_cons s_int (a_cons s_int (a_cons (s_bin o_add s_int (s_call (fn__law_take T) (hr.mono (by decide)) (takes_of rfl rfl rfl rfl) (a_cons (s_var 0) (a_cons s_int a_nil)) (hlen := (len_cons (len_cons len_nil))))) a_nil)))) a_nil))) (hlen := (len_cons (len_cons (len_cons len_nil))))) (a_cons (s_call (fn__law_ask T) (hr.mono (by decide)) (takes_of rfl rfl rfl rfl) (a_cons (s_var 0) (a_cons (s_var 1) (a_cons s_int (a_cons s_int a_nil)))) (hlen := (len_cons (len_cons (len_cons (len_cons len_nil)))))) (a_cons (s_call (fn__law_ask T) (hr.mono (by decide)) (takes_of rfl rfl rfl rfl) (a_cons (s_var 0) (a_cons (s_var 1) (a_cons s_int (a_cons s_int a_nil)))) (hlen := (len_cons (len_cons (len_cons (len_cons len_nil)))))) (a_cons (s_call (fn__law_order T) (hr.mono (by decide)) (takes_of rfl rfl rfl rfl) (a_cons (s_var 0) (a_cons s_int (a_cons (s_lst (a_cons s_int (a_cons s_int (a_cons (s_bin o_add s_int (s_call (fn__law_take T) (hr.mono (by decide)) (takes_of rfl rfl rfl rfl) (a_cons (s_var 0) (a_cons s_int a_nil)) (hlen := (len_cons (len_cons len_nil))))) a_nil)))) a_nil))) (hlen := (len_cons (len_cons (len_cons len_nil))))) a_nil)))))))
    (b_one (st_ret (s_bin o_add (s_ty1 b_tup T.b_tuple (by rfl) (a_cons (s_var 2) a_nil)) (s_tup (a_cons (s_tup (a_cons (s_str [115, 97, 121]) (a_cons s_bl a_nil))) (a_cons (s_tup (a_cons (s_str [115, 97, 121]) (a_cons s_bl a_nil))) a_nil)))))))
    b_nil)
  (b_cons (st_set sc__law_tree.nd rfl (.inl rfl) (s_bin o_add s_int (s_call (fn__law_take T) (hr.mono (by decide)) (takes_of rfl rfl rfl rfl) (a_cons (s_var 0) (a_cons s_int a_nil)) (hlen := (len_cons (len_cons len_nil))))))
  (b_cons (st_setLc [("k", 4)] rfl sc__law_tree.nd (blkOk_by (N := ["urn", "wide", "found_so", "n", "k"]) (sc := defScope (top 40)) (by decide +kernel)) rfl rfl (sw_true rfl rfl rfl (by decide +kernel)) (i_range1 false (a_cons (s_var 3) a_nil) T.b_range) (fun j h => by first | simpa using h | (simp at h ⊢; omega)) (fun _ _ _ _ _ => (g_name 4 sc__law_tree.nd)) (fun _ _ _ _ _ => ts_nil) (fun _ _ _ _ _ => (s_call (fn__law_ask T) (hr.mono (by decide)) takes0 (a_cons (s_var 0) (a_cons (s_var 1) (a_cons (s_var 4) (a_cons (s_bin o_add (s_var 4) s_int) a_nil)))) (hlen := (len_cons (len_cons (len_cons (len_cons len_nil))))))))
  (b_cons (st_set sc__law_tree.nd rfl (.inl rfl) (s_bin o_add (s_var 2) (s_lst (a_cons (s_call (fn__law_order T) (hr.mono (by decide)) (takes_of rfl rfl rfl rfl) (a_cons (s_var 0) (a_cons (s_var 3) (a_cons (s_lst (a_cons (s_bin o_add (s_var 3) s_int) (a_cons (s_bin o_add (s_var 3) s_int) (a_cons (s_bin o_add (s_var 3) s_int) a_nil)))) a_nil))) (hlen := (len_cons (len_cons (len_cons len_nil))))) (a_cons (s_call (fn__law_order T) (hr.mono (by decide)) (takes_of rfl rfl rfl rfl) (a_cons (s_var 0) (a_cons (s_var 3) (a_cons (s_lst (a_cons (s_bin o_add (s_var 3) s_int) (a_cons (s_bin o_add (s_var 3) s_int) (a_cons (s_bin o_add (s_bin o_add (s_var 3) s_int) (s_call (fn__law_take T) (hr.mono (by decide)) (takes_of rfl rfl rfl rfl) (a_cons (s_var 0) (a_cons s_int a_nil)) (hlen := (len_cons (len_cons len_nil))))) a_nil)))) a_nil))) (hlen := (len_cons (len_cons (len_cons len_nil))))) a_nil)))))
  (b_one (st_ret (s_bin o_add (s_ty1 b_tup T.b_tuple (by rfl) (a_cons (s_var 2) a_nil)) (s_tup (a_cons (s_tup (a_cons (s_str [115, 97, 121]) (a_cons s_bl a_nil))) (a_cons (s_tup (a_cons (s_str [115, 97, 121]) (a_cons s_bl a_nil))) a_nil))))))))))
theorem fn__law_text (T : Txt K mg) : FnAt P w K mg base 2 "_law_text" 3 f__law_text := T.d__law_text.fn sc__law_text fun f cdv A outer s H E hr => (b_one (st_ret (s_ty1 b_tup T.b_tuple (by rfl) (a_cons (s_comp [("lap", 3)] rfl sc__law_text.nd (blkOk_by (N := ["urn", "wide", "most_so", "lap"]) (sc := defScope (top 34)) (by decide +kernel)) (i_range1 false (a_cons (s_call (fn__law_take T) (hr.mono (by decide)) (takes_of rfl rfl rfl rfl) (a_cons (s_var 0) (a_cons (s_bin o_add (s_var 2) s_int) a_nil)) (hlen := (len_cons (len_cons len_nil)))) a_nil) T.b_range) (fun j h => by first | simpa using h | (simp at h ⊢; omega)) (fun _ _ _ _ _ => (g_name 3 sc__law_text.nd)) (fun _ _ _ _ _ => ts_nil) (fun _ _ _ _ _ => (s_bin o_add s_int (s_call (fn__law_take T) (hr.mono (by decide)) takes0 (a_cons (s_var 0) (a_cons (s_var 1) a_nil)) (hlen := (len_cons (len_cons len_nil))))))) a_nil))))
theorem fn__law_same (T : Txt K mg) : ∀ k : Nat, FnAt P w K mg base (1 + k) "_law_same" 2 (f__law_same k)
  | 0 => T.d__law_same.fn sc__law_same fun f cdv A outer s H E hr => b_never
  | k + 1 => T.d__law_same.fn sc__law_same fun f cdv A outer s H E hr => (b_cons (st_if (t_val (s_isi2 .tList .tTuple T.b_isinstance T.b_list T.b_tuple (s_var 1) (by rfl) (by rfl)))
    (b_cons (st_if (SW.st (w_or (t_cmp (o_ne hr.units) (s_isi .tList T.b_isinstance T.b_list (s_var 0) (by rfl)) (s_isi .tList T.b_isinstance T.b_list (s_var 1) (by rfl))) (w_or1 (t_cmp (o_ne hr.units) (s_isi .tTuple T.b_isinstance T.b_tuple (s_var 0) (by rfl)) (s_isi .tTuple T.b_isinstance T.b_tuple (s_var 1) (by rfl))))))
      (b_one (st_ret s_bl))
      b_nil)
    (b_one (st_ret (s_and (s_cmp (o_eq hr.units) (s_bl1 b_len T.b_len (by rfl) (a_cons (s_var 0) a_nil)) (s_bl1 b_len T.b_len (by rfl) (a_cons (s_var 1) a_nil))) (s_one (s_bl1 (b_all rfl) T.b_all (by rfl) (a_cons (s_comp [("mine_so", 2), ("own", 3)] rfl sc__law_same.nd (blkOk_by (N := ["near", "goal", "mine_so", "own"]) (sc := defScope (top 33)) (by decide +kernel)) (i_zip false (a_cons (s_var 0) (a_cons (s_var 1) a_nil)) T.b_zip) (fun j h => by first | simpa using h | (simp at h ⊢; omega)) (fun _ _ _ _ _ => (g_tup 2 rfl (gs_cons (g_name 2 sc__law_same.nd) (gs_cons (g_name 3 sc__law_same.nd) gs_nil)))) (fun _ _ _ _ _ => ts_nil) (fun _ _ _ _ _ => (s_call (fn__law_same T k) hr takes0 (a_cons (s_var 2) (a_cons (s_var 3) a_nil)) (hlen := (len_cons (len_cons len_nil)))))) a_nil)))))))
    b_nil)
  (b_cons (st_if (SW.st (w_or (t_cmp o_is (s_var 1) s_non) (w_or1 (t_val (s_isi2 .tBool .tStr T.b_isinstance T.b_bool T.b_str (s_var 1) (by rfl) (by rfl))))))
    (b_one (st_ret (s_and (s_cmp (o_eq hr.units) (s_var 0) (s_var 1)) (s_and (s_cmp (o_eq hr.units) (s_isi .tBool T.b_isinstance T.b_bool (s_var 0) (by rfl)) (s_isi .tBool T.b_isinstance T.b_bool (s_var 1) (by rfl))) (s_one (s_cmp (o_eq hr.units) (s_cmp o_is (s_var 0) s_non) (s_cmp o_is (s_var 1) s_non)))))))
    b_nil)
  (b_one (st_ret (s_and (s_isi .tInt T.b_isinstance T.b_int (s_var 0) (by rfl)) (s_and (s_not (s_isi .tBool T.b_isinstance T.b_bool (s_var 0) (by rfl))) (s_one (s_cmp (o_eq hr.units) (s_var 0) (s_var 1)))))))))
theorem fn__law_changes (T : Txt K mg) : FnAt P w K mg base 1 "_law_changes" 2 f__law_changes := T.d__law_changes.fn sc__law_changes fun f cdv A outer s H E hr => (b_cons (st_setLc [("k", 3)] rfl sc__law_changes.nd (blkOk_by (N := ["wide", "n", "found_so", "k", "s"]) (sc := defScope (top 45)) (by decide +kernel)) rfl rfl (sw_true rfl rfl rfl (by decide +kernel)) (i_range2 false (a_cons s_int (a_cons (s_bin o_add (s_var 1) s_int) a_nil)) T.b_range) (fun j h => by first | simpa using h | (simp at h ⊢; omega)) (fun _ _ _ _ _ => (g_name 3 sc__law_changes.nd)) (fun _ _ _ _ _ => ts_nil) (fun _ _ _ _ _ => (s_tup (a_cons (s_str [100, 114, 111, 112]) (a_cons (s_var 3) a_nil)))))
  (b_cons (st_for (passes_of rfl) rfl (i_range2 true (a_cons s_int (a_cons (s_bin o_add (s_var 1) s_int) a_nil)) T.b_range) (g_name 3 sc__law_changes.nd)
    (b_one (st_set sc__law_changes.nd rfl (.inl rfl) (s_bin o_add (s_var 2) (s_comp [("s", 4)] rfl sc__law_changes.nd (blkOk_by (N := ["wide", "n", "found_so", "k", "s"]) (sc := defScope (top 45)) (by decide +kernel)) (i_range2 false (a_cons s_int (a_cons (s_bin o_add (s_var 0) s_int) a_nil)) T.b_range) (fun j h => by first | simpa using h | (simp at h ⊢; omega)) (fun _ _ _ _ _ => (g_name 4 sc__law_changes.nd)) (fun _ _ _ _ _ => ts_nil) (fun _ _ _ _ _ => (s_tup (a_cons (s_str [112, 117, 116]) (a_cons (s_var 3) (a_cons (s_var 4) a_nil))))))))))
  (b_cons (st_for (passes_of rfl) rfl (i_range2 true (a_cons s_int (a_cons (s_bin o_add (s_var 1) s_int) a_nil)) T.b_range) (g_name 3 sc__law_changes.nd)
    (b_one (st_set sc__law_changes.nd rfl (.inl rfl) (s_bin o_add (s_var 2) (s_comp [("s", 4)] rfl sc__law_changes.nd (blkOk_by (N := ["wide", "n", "found_so", "k", "s"]) (sc := defScope (top 45)) (by decide +kernel)) (i_range2 false (a_cons s_int (a_cons (s_bin o_add (s_var 0) s_int) a_nil)) T.b_range) (fun j h => by first | simpa using h | (simp at h ⊢; omega)) (fun _ _ _ _ _ => (g_name 4 sc__law_changes.nd)) (fun _ _ _ _ _ => ts_nil) (fun _ _ _ _ _ => (s_tup (a_cons (s_str [116, 117, 114, 110]) (a_cons (s_var 3) (a_cons (s_var 4) a_nil))))))))))
  (b_one (st_ret (s_var 2))))))
theorem fn__law_behind_change (T : Txt K mg) : FnAt P w K mg base 1 "_law_behind_change" 2 f__law_behind_change := T.d__law_behind_change.fn sc__law_behind_change fun f cdv A outer s H E hr => (b_cons (st_set sc__law_behind_change.nd rfl (.inl rfl) (s_bin o_sub (s_ix (s_var 1) s_int) s_int))
  (b_cons (st_if (t_cmp (o_eq hr.units) (s_ix (s_var 1) s_int) (s_str [112, 117, 116]))
    (b_one (st_ret (s_bin o_add (s_bin o_add (s_cut (s_var 0) p_no (p_at (s_var 2))) (s_tup (a_cons (s_ix (s_var 1) s_int) a_nil))) (s_cut (s_var 0) (p_at (s_var 2)) p_no))))
    b_nil)
  (b_one (st_ret (s_bin o_add (s_bin o_add (s_cut (s_var 0) p_no (p_at (s_var 2))) (s_if (t_cmp (o_eq hr.units) (s_ix (s_var 1) s_int) (s_str [116, 117, 114, 110])) (s_tup (a_cons (s_ix (s_var 1) s_int) a_nil)) (s_tup a_nil))) (s_cut (s_var 0) (p_at (s_bin o_add (s_var 2) s_int)) p_no))))))
theorem fn_tuple_of (T : Txt K mg) : ∀ k : Nat, FnAt P w K mg base (1 + k) "tuple_of" 1 (f_tuple_of k)
  | 0 => T.d_tuple_of.fn sc_tuple_of fun f cdv A outer s H E hr => b_never
  | k + 1 => T.d_tuple_of.fn sc_tuple_of fun f cdv A outer s H E hr => (b_cons (st_if (t_val (s_isi2 .tList .tTuple T.b_isinstance T.b_list T.b_tuple (s_var 0) (by rfl) (by rfl)))
    (b_one (st_ret (s_ty1 b_tup T.b_tuple (by rfl) (a_cons (s_comp [("part", 1)] rfl sc_tuple_of.nd (blkOk_by (N := ["thing", "part"]) (sc := defScope (top 2)) (by decide +kernel)) (i_seq false (s_var 0)) (fun j h => by first | simpa using h | (simp at h ⊢; omega)) (fun _ _ _ _ _ => (g_name 1 sc_tuple_of.nd)) (fun _ _ _ _ _ => ts_nil) (fun _ _ _ _ _ => (s_call (fn_tuple_of T k) hr takes0 (a_cons (s_var 1) a_nil) (hlen := (len_cons len_nil))))) a_nil))))
    b_nil)
  (b_one (st_ret (s_var 0))))
theorem fn_is_number (T : Txt K mg) : FnAt P w K mg base 1 "is_number" 1 f_is_number := T.d_is_number.fn sc_is_number fun f cdv A outer s H E hr => (b_one (st_ret (s_and (s_isi .tInt T.b_isinstance T.b_int (s_var 0) (by rfl)) (s_one (s_not (s_isi .tBool T.b_isinstance T.b_bool (s_var 0) (by rfl)))))))
theorem fn_sure_place (T : Txt K mg) : FnAt P w K mg base 2 "sure_place" 2 f_sure_place := T.d_sure_place.fn sc_sure_place fun f cdv A outer s H E hr => (b_one (st_if (SW.st (w_or (t_not (t_val (s_call (fn_is_number T) (hr.mono (by decide)) (takes_of rfl rfl rfl rfl) (a_cons (s_var 1) a_nil) (hlen := (len_cons len_nil))))) (w_or1 (t_not (t_chain (o_le hr.units) (o_le hr.units) s_int (s_var 1) (s_bin o_add (s_bl1 b_len T.b_len (by rfl) (a_cons (s_var 0) a_nil)) s_int))))))
    (b_one st_never)
    b_nil))
theorem fn_next_place (T : Txt K mg) : FnAt P w K mg base 3 "next_place" 3 f_next_place := T.d_next_place.fn sc_next_place fun f cdv A outer s H E hr => (b_cons (st_drop (s_call (fn_sure_place T) (hr.mono (by decide)) (takes_of rfl rfl rfl rfl) (a_cons (s_var 0) (a_cons (s_var 1) a_nil)) (hlen := (len_cons (len_cons len_nil)))))
  (b_cons (st_for (passes_of rfl) rfl (i_range2 true (a_cons (s_bin o_add (s_var 1) s_int) (a_cons (s_bin o_add (s_bl1 b_len T.b_len (by rfl) (a_cons (s_var 0) a_nil)) s_int) a_nil)) T.b_range) (g_name 3 sc_next_place.nd)
    (b_one (st_if (t_cmp (o_in (Room.u65 hr)) (s_ix (s_var 0) (s_bin o_sub (s_var 3) s_int)) (s_var 2))
      (b_one (st_ret (s_var 3)))
      b_nil)))
  (b_one (st_ret (s_bin o_add (s_bl1 b_len T.b_len (by rfl) (a_cons (s_var 0) a_nil)) s_int)))))
theorem fn_last_place (T : Txt K mg) : FnAt P w K mg base 3 "last_place" 3 f_last_place := T.d_last_place.fn sc_last_place fun f cdv A outer s H E hr => (b_cons (st_drop (s_call (fn_sure_place T) (hr.mono (by decide)) (takes_of rfl rfl rfl rfl) (a_cons (s_var 0) (a_cons (s_var 1) a_nil)) (hlen := (len_cons (len_cons len_nil)))))
  (b_cons (st_for (passes_of rfl) rfl (i_range3 true (a_cons (s_bin o_sub (s_var 1) s_int) (a_cons s_int (a_cons (s_neg s_int) a_nil))) (fun _ => pi_range3 (by rfl) T.b_range tWA_pa)) (g_name 3 sc_last_place.nd)
    (b_one (st_if (t_cmp (o_in (Room.u65 hr)) (s_ix (s_var 0) (s_bin o_sub (s_var 3) s_int)) (s_var 2))
      (b_one (st_ret (s_var 3)))
      b_nil)))
  (b_one (st_ret s_int))))
theorem fn_found (T : Txt K mg) : FnAt P w K mg base 4 "found" 4 f_found := T.d_found.fn sc_found fun f cdv A outer s H E hr => (b_one (st_ret (s_if (t_cmp (o_eq hr.units) (s_var 2) (s_str [110, 101, 120, 116])) (s_call (fn_next_place T) (hr.mono (by decide)) (takes_of rfl rfl rfl rfl) (a_cons (s_var 0) (a_cons (s_var 1) (a_cons (s_var 3) a_nil))) (hlen := (len_cons (len_cons (len_cons len_nil))))) (s_call (fn_last_place T) (hr.mono (by decide)) (takes_of rfl rfl rfl rfl) (a_cons (s_var 0) (a_cons (s_var 1) (a_cons (s_var 3) a_nil))) (hlen := (len_cons (len_cons (len_cons len_nil))))))))
theorem fn_gone (T : Txt K mg) : FnAt P w K mg base 14 "gone" 2 f_gone := T.d_gone.fn sc_gone fun f cdv A outer s H E hr => (b_cons (st_par2 rfl sc_gone.nd rfl rfl (by decide) rfl rfl (a_cons (s_call (fn_tuple_of T 12) (hr.mono (by decide)) (takes_of rfl rfl rfl rfl) (a_cons (s_var 0) a_nil) (hlen := (len_cons len_nil))) (a_cons (s_call (fn_tuple_of T 12) (hr.mono (by decide)) (takes_of rfl rfl rfl rfl) (a_cons (s_var 1) a_nil) (hlen := (len_cons len_nil))) a_nil)) (by rfl))
  (b_cons (st_parV rfl sc_gone.nd rfl rfl (by decide) rfl rfl (s_lst (a_cons s_int a_nil)) (s_lst (a_cons s_int (a_cons (s_bin o_add (s_bl1 b_len T.b_len (by rfl) (a_cons (s_var 3) a_nil)) s_int) a_nil))) (by rfl))
  (b_cons (st_while 100000 (passes_of rfl) (t_cmp (o_ne hr.units) (s_ix (s_ix (s_var 2) (s_ix (s_var 4) (s_neg s_int))) s_int) (s_str [115, 97, 121]))
    (b_cons (st_set sc_gone.nd rfl (.inl rfl) (s_ix (s_var 2) (s_ix (s_var 4) (s_neg s_int))))
    (b_one (st_if (t_cmp (o_eq hr.units) (s_ix (s_var 6) s_int) (s_str [97, 115, 107]))
      (b_cons (st_mut F.slot_list_append (by rfl) m_app 5 (a_cons (s_call (fn_found T) (hr.mono (by decide)) (takes_of rfl rfl rfl rfl) (a_cons (s_var 3) (a_cons (s_ix (s_var 5) (s_ix (s_var 6) s_int)) (a_cons (s_ix (s_var 6) s_int) (a_cons (s_ix (s_var 6) s_int) a_nil)))) (hlen := (len_cons (len_cons (len_cons (len_cons len_nil)))))) a_nil))
      (b_one (st_mut F.slot_list_append (by rfl) m_app 4 (a_cons (s_ix (s_var 6) s_int) a_nil))))
      (b_cons (st_par2 rfl sc_gone.nd rfl rfl (by decide) rfl rfl (a_cons (s_ix (s_var 5) (s_ix (s_var 6) s_int)) (a_cons (s_ix (s_var 5) (s_ix (s_var 6) s_int)) a_nil)) (by rfl))
      (b_one (st_mut F.slot_list_append (by rfl) m_app 4 (a_cons (s_if (t_cmp (o_lt hr.units) (s_var 7) (s_var 8)) (s_ix (s_var 6) s_int) (s_if (t_cmp (o_eq hr.units) (s_var 7) (s_var 8)) (s_ix (s_var 6) s_int) (s_ix (s_var 6) s_int))) a_nil))))))))
  (b_one (st_ret (s_tup (a_cons (s_ty1 b_tup T.b_tuple (by rfl) (a_cons (s_var 4) a_nil)) (a_cons (s_ty1 b_tup T.b_tuple (by rfl) (a_cons (s_var 5) a_nil)) a_nil))))))))
theorem fn_run (T : Txt K mg) : FnAt P w K mg base 15 "run" 2 f_run := T.d_run.fn sc_run fun f cdv A outer s H E hr => (b_cons (st_asg (s_call (fn_gone T) (hr.mono (by decide)) (takes_of rfl rfl rfl rfl) (a_cons (s_var 0) (a_cons (s_var 1) a_nil)) (hlen := (len_cons (len_cons len_nil)))) (g_tup 2 rfl (gs_cons (g_name 2 sc_run.nd) (gs_cons (g_name 3 sc_run.nd) gs_nil))))
  (b_one (st_ret (s_tup (a_cons (s_var 3) (a_cons (s_ix (s_ix (s_var 0) (s_ix (s_var 2) (s_neg s_int))) s_int) a_nil))))))
theorem fn_way_of (T : Txt K mg) : FnAt P w K mg base 15 "way_of" 2 f_way_of := T.d_way_of.fn sc_way_of fun f cdv A outer s H E hr => (b_one (st_ret (s_ix (s_call (fn_gone T) (hr.mono (by decide)) (takes_of rfl rfl rfl rfl) (a_cons (s_var 0) (a_cons (s_var 1) a_nil)) (hlen := (len_cons (len_cons len_nil)))) s_int)))
theorem fn_gone_over (T : Txt K mg) : FnAt P w K mg base 16 "gone_over" 2 f_gone_over := T.d_gone_over.fn sc_gone_over fun f cdv A outer s H E hr => (b_cons (st_asg (s_tup (a_cons (s_call (fn_tuple_of T 12) (hr.mono (by decide)) (takes_of rfl rfl rfl rfl) (a_cons (s_var 0) a_nil) (hlen := (len_cons len_nil))) (a_cons (s_call (fn_run T) (hr.mono (by decide)) (takes_of rfl rfl rfl rfl) (a_cons (s_var 0) (a_cons (s_var 1) a_nil)) (hlen := (len_cons (len_cons len_nil)))) a_nil))) (g_tup 2 rfl (gs_cons (g_name 2 sc_gone_over.nd) (gs_cons (g_tup 2 rfl (gs_cons (g_name 3 sc_gone_over.nd) (gs_cons (g_name 4 sc_gone_over.nd) gs_nil))) gs_nil))))
  (b_cons (st_setLc [("knot", 6)] rfl sc_gone_over.nd (blkOk_by (N := ["tree", "text", "own", "spots", "_", "asks", "knot", "number", "spot", "side", "letters"]) (sc := defScope (top 18)) (by decide +kernel)) rfl rfl (sw_true rfl rfl rfl (by decide +kernel)) (i_seq false (s_call (fn_way_of T) (hr.mono (by decide)) (takes_of rfl rfl rfl rfl) (a_cons (s_var 0) (a_cons (s_var 1) a_nil)) (hlen := (len_cons (len_cons len_nil))))) (fun j h => by first | simpa using h | (simp at h ⊢; omega)) (fun _ _ _ _ _ => (g_name 6 sc_gone_over.nd)) (fun _ _ _ _ _ => (ts_one (t_cmp (o_eq hr.units) (s_ix (s_ix (s_var 2) (s_var 6)) s_int) (s_str [97, 115, 107])))) (fun _ _ _ _ _ => (s_ix (s_var 2) (s_var 6))))
  (b_one (st_ret (s_ty1 b_tup T.b_tuple (by rfl) (a_cons (s_comp [("number", 7), ("_", 4), ("spot", 8), ("side", 9), ("letters", 10)] rfl sc_gone_over.nd (blkOk_by (N := ["tree", "text", "own", "spots", "_", "asks", "knot", "number", "spot", "side", "letters"]) (sc := defScope (top 18)) (by decide +kernel)) (i_enum false (a_cons (s_var 5) a_nil) T.b_enumerate) (fun j h => by first | simpa using h | (simp at h ⊢; omega)) (fun _ _ _ _ _ => (g_tup 2 rfl (gs_cons (g_name 7 sc_gone_over.nd) (gs_cons (g_tup 5 rfl (gs_cons (g_name 4 sc_gone_over.nd) (gs_cons (g_name 8 sc_gone_over.nd) (gs_cons (g_name 9 sc_gone_over.nd) (gs_cons (g_name 10 sc_gone_over.nd) (gs_cons (g_name 4 sc_gone_over.nd) gs_nil)))))) gs_nil)))) (fun _ _ _ _ _ => ts_nil) (fun _ _ _ _ _ => (s_tup (a_cons (s_var 9) (a_cons (s_ix (s_var 3) (s_var 8)) (a_cons (s_ix (s_var 3) (s_bin o_add (s_var 7) s_int)) (a_cons (s_var 10) a_nil))))))) a_nil))))))
theorem fn__law_moved (T : Txt K mg) : FnAt P w K mg base 1 "_law_moved" 2 f__law_moved := T.d__law_moved.fn sc__law_moved fun f cdv A outer s H E hr => (b_cons (st_if (t_cmp (o_eq hr.units) (s_ix (s_var 0) s_int) (s_str [112, 117, 116]))
    (b_one (st_ret (s_if (t_cmp (o_ge hr.units) (s_var 1) (s_ix (s_var 0) s_int)) (s_bin o_add (s_var 1) s_int) (s_var 1))))
    b_nil)
  (b_cons (st_if (t_cmp (o_eq hr.units) (s_ix (s_var 0) s_int) (s_str [100, 114, 111, 112]))
    (b_one (st_ret (s_if (t_cmp (o_eq hr.units) (s_var 1) (s_ix (s_var 0) s_int)) s_non (s_if (t_cmp (o_gt hr.units) (s_var 1) (s_ix (s_var 0) s_int)) (s_bin o_sub (s_var 1) s_int) (s_var 1)))))
    b_nil)
  (b_one (st_ret (s_var 1)))))
theorem fn__law_touched (T : Txt K mg) : FnAt P w K mg base 2 "_law_touched" 3 f__law_touched := T.d__law_touched.fn sc__law_touched fun f cdv A outer s H E hr => (b_cons (st_par2 rfl sc__law_touched.nd rfl rfl (by decide) rfl rfl (a_cons (s_call (fn__law_moved T) (hr.mono (by decide)) (takes_of rfl rfl rfl rfl) (a_cons (s_var 2) (a_cons (s_ix (s_var 0) s_int) a_nil)) (hlen := (len_cons (len_cons len_nil)))) (a_cons (s_call (fn__law_moved T) (hr.mono (by decide)) (takes_of rfl rfl rfl rfl) (a_cons (s_var 2) (a_cons (s_ix (s_var 0) s_int) a_nil)) (hlen := (len_cons (len_cons len_nil)))) a_nil)) (by rfl))
  (b_cons (st_if (t_cmp o_is (s_var 3) s_non)
    (b_cons (st_if (t_cmp o_is (s_var 4) s_non)
      (b_one (st_ret s_bl))
      b_nil)
    (b_one (st_set sc__law_touched.nd rfl (.inl rfl) (s_if (t_cmp (o_eq hr.units) (s_ix (s_var 0) s_int) (s_str [108, 97, 115, 116])) (s_ix (s_var 2) s_int) (s_bin o_sub (s_ix (s_var 2) s_int) s_int)))))
    b_nil)
  (b_one (st_ret (s_cmp (o_ne hr.units) (s_var 4) (s_call (fn__law_found T) (hr.mono (by decide)) (takes_of rfl rfl rfl rfl) (a_cons (s_call (fn__law_behind_change T) (hr.mono (by decide)) (takes_of rfl rfl rfl rfl) (a_cons (s_var 1) (a_cons (s_var 2) a_nil)) (hlen := (len_cons (len_cons len_nil)))) (a_cons (s_var 3) (a_cons (s_ix (s_var 0) s_int) (a_cons (s_ix (s_var 0) s_int) a_nil)))) (hlen := (len_cons (len_cons (len_cons (len_cons len_nil)))))))))))
theorem fn_changes_of (T : Txt K mg) : FnAt P w K mg base 5 "changes_of" 2 f_changes_of := T.d_changes_of.fn sc_changes_of fun f cdv A outer s H E hr => (b_cons (st_asg (s_tup (a_cons (s_bl1 b_len T.b_len (by rfl) (a_cons (s_var 1) a_nil)) (a_cons (s_lrg2 rfl T.b_list T.b_range s_int (s_bin o_add (s_var 0) s_int)) a_nil))) (g_tup 2 rfl (gs_cons (g_name 2 sc_changes_of.nd) (gs_cons (g_name 3 sc_changes_of.nd) gs_nil))))
  (b_cons (st_ownLc [("place", 5)] rfl sc_changes_of.nd (blkOk_by (N := ["wide", "text", "many", "letters", "found", "place", "letter"]) (sc := defScope (top 22)) (by decide +kernel)) rfl rfl (sw_true rfl rfl rfl (by decide +kernel)) (i_range2 false (a_cons s_int (a_cons (s_bin o_add (s_var 2) s_int) a_nil)) T.b_range) (fun j h => by first | simpa using h | (simp at h ⊢; omega)) (fun _ _ _ _ _ => (g_name 5 sc_changes_of.nd)) (fun _ _ _ _ _ => ts_nil) (fun _ _ _ _ _ => (s_tup (a_cons (s_str [100, 114, 111, 112]) (a_cons (s_var 5) a_nil)))))
  (b_cons (st_mut F.slot_list_extend (by rfl) m_ext 4 (a_cons (s_comp2 [("place", 5), ("letter", 6)] [6] rfl sc_changes_of.nd (blkOk_by (N := ["wide", "text", "many", "letters", "found", "place", "letter"]) (sc := defScope (top 22)) (by decide +kernel)) (by decide) (i_range2 false (a_cons s_int (a_cons (s_bin o_add (s_var 2) s_int) a_nil)) T.b_range) (fun j h => by first | simpa using h | (simp at h ⊢; omega)) (fun j h => by first | simpa using h | (simp at h ⊢; omega)) (fun _ _ _ _ _ => (g_name 5 sc_changes_of.nd)) (fun _ _ _ _ _ => ts_nil) (fun _ _ _ _ _ => (i_seq true (s_var 3))) (fun _ _ _ _ _ => (g_name 6 sc_changes_of.nd)) (fun _ _ _ _ _ => ts_nil) (fun _ _ _ _ _ => (s_tup (a_cons (s_str [112, 117, 116]) (a_cons (s_var 5) (a_cons (s_var 6) a_nil)))))) a_nil))
  (b_cons (st_mut F.slot_list_extend (by rfl) m_ext 4 (a_cons (s_comp2 [("place", 5), ("letter", 6)] [6] rfl sc_changes_of.nd (blkOk_by (N := ["wide", "text", "many", "letters", "found", "place", "letter"]) (sc := defScope (top 22)) (by decide +kernel)) (by decide) (i_range2 false (a_cons s_int (a_cons (s_bin o_add (s_var 2) s_int) a_nil)) T.b_range) (fun j h => by first | simpa using h | (simp at h ⊢; omega)) (fun j h => by first | simpa using h | (simp at h ⊢; omega)) (fun _ _ _ _ _ => (g_name 5 sc_changes_of.nd)) (fun _ _ _ _ _ => ts_nil) (fun _ _ _ _ _ => (i_seq true (s_var 3))) (fun _ _ _ _ _ => (g_name 6 sc_changes_of.nd)) (fun _ _ _ _ _ => ts_nil) (fun _ _ _ _ _ => (s_tup (a_cons (s_str [116, 117, 114, 110]) (a_cons (s_var 5) (a_cons (s_var 6) a_nil)))))) a_nil))
  (b_one (st_ret (s_ty1 b_tup T.b_tuple (by rfl) (a_cons (s_var 4) a_nil))))))))
theorem fn_is_touched (T : Txt K mg) : FnAt P w K mg base 1 "is_touched" 2 f_is_touched := T.d_is_touched.fn sc_is_touched fun f cdv A outer s H E hr => (b_cons (st_asg (s_tup (a_cons (s_var 0) (a_cons (s_var 1) a_nil))) (g_tup 2 rfl (gs_cons (g_tup 4 rfl (gs_cons (g_name 2 sc_is_touched.nd) (gs_cons (g_name 3 sc_is_touched.nd) (gs_cons (g_name 4 sc_is_touched.nd) (gs_cons (g_name 5 sc_is_touched.nd) gs_nil))))) (gs_cons (g_tupS 2 rfl (gs_cons (g_name 6 sc_is_touched.nd) (gs_cons (g_name 7 sc_is_touched.nd) (gs_star (g_name 8 sc_is_touched.nd))))) gs_nil))))
  (b_cons (st_par2 rfl sc_is_touched.nd rfl rfl (by decide) rfl rfl (a_cons (s_bl1 (b_min rfl) T.b_min (by rfl) (a_cons (s_var 3) (a_cons (s_var 4) a_nil))) (a_cons (s_bl1 (b_max rfl) T.b_max (by rfl) (a_cons (s_var 3) (a_cons (s_var 4) a_nil))) a_nil)) (by rfl))
  (b_cons (st_if (t_cmp (o_eq hr.units) (s_var 6) (s_str [112, 117, 116]))
    (b_one (st_ret (s_and (s_chain (o_lt hr.units) (o_le hr.units) (s_var 9) (s_var 7) (s_var 10)) (s_one (s_cmp (o_in (Room.u65 hr)) (s_ix (s_var 8) s_int) (s_var 5))))))
    b_nil)
  (b_cons (st_if (t_cmp (o_eq hr.units) (s_var 7) (s_var 4))
    (b_one (st_ret (s_or (s_cmp (o_eq hr.units) (s_var 6) (s_str [100, 114, 111, 112])) (s_one (s_cmp (o_notin (Room.u65 hr)) (s_ix (s_var 8) s_int) (s_var 5))))))
    b_nil)
  (b_one (st_ret (s_and (s_cmp (o_eq hr.units) (s_var 6) (s_str [116, 117, 114, 110])) (s_and (s_chain (o_lt hr.units) (o_lt hr.units) (s_var 9) (s_var 7) (s_var 10)) (s_one (s_cmp (o_in (Room.u65 hr)) (s_ix (s_var 8) s_int) (s_var 5)))))))))))
theorem fn_can_turn (T : Txt K mg) : FnAt P w K mg base 17 "can_turn" 3 f_can_turn := T.d_can_turn.fn sc_can_turn fun f cdv A outer s H E hr => (b_cons (st_set sc_can_turn.nd rfl (.inr rfl) (s_call (fn_gone_over T) (hr.mono (by decide)) (takes_of rfl rfl rfl rfl) (a_cons (s_var 1) (a_cons (s_var 2) a_nil)) (hlen := (len_cons (len_cons len_nil)))))
  (b_one (st_ret (s_ty1 b_tup T.b_tuple (by rfl) (a_cons (s_comp [("own", 4)] rfl sc_can_turn.nd (blkOk_by (N := ["wide", "tree", "text", "stretches", "own", "stretch"]) (sc := defScope (top 23)) (by decide +kernel)) (i_seq false (s_call (fn_changes_of T) (hr.mono (by decide)) (takes_of rfl rfl rfl rfl) (a_cons (s_var 0) (a_cons (s_var 2) a_nil)) (hlen := (len_cons (len_cons len_nil))))) (fun j h => by first | simpa using h | (simp at h ⊢; omega)) (fun _ _ _ _ _ => (g_name 4 sc_can_turn.nd)) (fun _ _ _ _ _ => (ts_one (t_val (s_bl1 (b_any rfl) T.b_any (by rfl) (a_cons (s_comp [("stretch", 5)] rfl sc_can_turn.nd (blkOk_nest (N := ["wide", "tree", "text", "stretches", "own", "stretch"]) (by decide +kernel)) (i_seq false (s_var 3)) (fun j h => by first | simpa using h | (simp at h ⊢; omega)) (fun _ _ _ _ _ => (g_name 5 sc_can_turn.nd)) (fun _ _ _ _ _ => ts_nil) (fun _ _ _ _ _ => (s_call (fn_is_touched T) (hr.mono (by decide)) takes0 (a_cons (s_var 5) (a_cons (s_var 4) a_nil)) (hlen := (len_cons (len_cons len_nil)))))) a_nil))))) (fun _ _ _ _ _ => (s_var 4))) a_nil)))))
theorem fn_answer (T : Txt K mg) : FnAt P w K mg base 16 "answer" 2 f_answer := T.d_answer.fn sc_answer fun f cdv A outer s H E hr => (b_one (st_ret (s_ix (s_call (fn_run T) (hr.mono (by decide)) (takes_of rfl rfl rfl rfl) (a_cons (s_var 0) (a_cons (s_var 1) a_nil)) (hlen := (len_cons (len_cons len_nil)))) s_int)))
theorem fn_changed (T : Txt K mg) : FnAt P w K mg base 14 "changed" 2 f_changed := T.d_changed.fn sc_changed fun f cdv A outer s H E hr => (b_cons (st_asg (s_tup (a_cons (s_call (fn_tuple_of T 12) (hr.mono (by decide)) (takes_of rfl rfl rfl rfl) (a_cons (s_var 0) a_nil) (hlen := (len_cons len_nil))) (a_cons (s_call (fn_tuple_of T 12) (hr.mono (by decide)) (takes_of rfl rfl rfl rfl) (a_cons (s_var 1) a_nil) (hlen := (len_cons len_nil))) a_nil))) (g_tup 2 rfl (gs_cons (g_name 2 sc_changed.nd) (gs_cons (g_tupS 2 rfl (gs_cons (g_name 3 sc_changed.nd) (gs_cons (g_name 4 sc_changed.nd) (gs_star (g_name 5 sc_changed.nd))))) gs_nil))))
  (b_cons (st_set sc_changed.nd rfl (.inl rfl) (s_if (t_cmp (o_eq hr.units) (s_var 3) (s_str [112, 117, 116])) (s_bin o_add (s_bl1 b_len T.b_len (by rfl) (a_cons (s_var 2) a_nil)) s_int) (s_bl1 b_len T.b_len (by rfl) (a_cons (s_var 2) a_nil))))
  (b_cons (st_if (t_not (t_chain (o_le hr.units) (o_le hr.units) s_int (s_var 4) (s_var 6)))
    (b_one st_never)
    b_nil)
  (b_one (st_ret (s_bin o_add (s_bin o_add (s_cut (s_var 2) p_no (p_at (s_bin o_sub (s_var 4) s_int))) (s_ty1 b_tup T.b_tuple (by rfl) (a_cons (s_var 5) a_nil))) (s_if (t_cmp (o_eq hr.units) (s_var 3) (s_str [112, 117, 116])) (s_cut (s_var 2) (p_at (s_bin o_sub (s_var 4) s_int)) p_no) (s_cut (s_var 2) (p_at (s_var 4)) p_no))))))))
theorem fn_turning (T : Txt K mg) : FnAt P w K mg base 17 "turning" 3 f_turning := T.d_turning.fn sc_turning fun f cdv A outer s H E hr => (b_cons (st_set sc_turning.nd rfl (.inr rfl) (s_call (fn_answer T) (hr.mono (by decide)) (takes_of rfl rfl rfl rfl) (a_cons (s_var 1) (a_cons (s_var 2) a_nil)) (hlen := (len_cons (len_cons len_nil)))))
  (b_one (st_ret (s_ty1 b_tup T.b_tuple (by rfl) (a_cons (s_comp [("own", 4)] rfl sc_turning.nd (blkOk_by (N := ["wide", "tree", "text", "yes", "own"]) (sc := defScope (top 24)) (by decide +kernel)) (i_seq false (s_call (fn_changes_of T) (hr.mono (by decide)) (takes_of rfl rfl rfl rfl) (a_cons (s_var 0) (a_cons (s_var 2) a_nil)) (hlen := (len_cons (len_cons len_nil))))) (fun j h => by first | simpa using h | (simp at h ⊢; omega)) (fun _ _ _ _ _ => (g_name 4 sc_turning.nd)) (fun _ _ _ _ _ => (ts_one (t_cmp (o_ne hr.units) (s_call (fn_answer T) (hr.mono (by decide)) takes0 (a_cons (s_var 1) (a_cons (s_call (fn_changed T) (hr.mono (by decide)) takes0 (a_cons (s_var 2) (a_cons (s_var 4) a_nil)) (hlen := (len_cons (len_cons len_nil)))) a_nil)) (hlen := (len_cons (len_cons len_nil)))) (s_var 3)))) (fun _ _ _ _ _ => (s_var 4))) a_nil)))))
theorem fn_place_behind (T : Txt K mg) : FnAt P w K mg base 15 "place_behind" 3 f_place_behind := T.d_place_behind.fn sc_place_behind fun f cdv A outer s H E hr => (b_cons (st_drop (s_call (fn_sure_place T) (hr.mono (by decide)) (takes_of rfl rfl rfl rfl) (a_cons (s_var 0) (a_cons (s_var 2) a_nil)) (hlen := (len_cons (len_cons len_nil)))))
  (b_cons (st_drop (s_call (fn_changed T) (hr.mono (by decide)) (takes_of rfl rfl rfl rfl) (a_cons (s_var 0) (a_cons (s_var 1) a_nil)) (hlen := (len_cons (len_cons len_nil)))))
  (b_cons (st_asg (s_cut (s_var 1) p_no (p_at s_int)) (g_tup 2 rfl (gs_cons (g_name 3 sc_place_behind.nd) (gs_cons (g_name 4 sc_place_behind.nd) gs_nil))))
  (b_cons (st_if (t_cmp (o_eq hr.units) (s_var 3) (s_str [112, 117, 116]))
    (b_one (st_ret (s_bin o_add (s_var 2) (s_ty1 b_int T.b_int (by rfl) (a_cons (s_cmp (o_ge hr.units) (s_var 2) (s_var 4)) a_nil)))))
    b_nil)
  (b_cons (st_if (t_cmp (o_eq hr.units) (s_var 3) (s_str [100, 114, 111, 112]))
    (b_one (st_ret (s_if (t_cmp (o_eq hr.units) (s_var 2) (s_var 4)) s_non (s_bin o_sub (s_var 2) (s_ty1 b_int T.b_int (by rfl) (a_cons (s_cmp (o_gt hr.units) (s_var 2) (s_var 4)) a_nil))))))
    b_nil)
  (b_one (st_ret (s_var 2))))))))
theorem fn__law_lists (T : Txt K mg) : ∀ k : Nat, FnAt P w K mg base (1 + k) "_law_lists" 1 (f__law_lists k)
  | 0 => T.d__law_lists.fn sc__law_lists fun f cdv A outer s H E hr => b_never
  | k + 1 => T.d__law_lists.fn sc__law_lists fun f cdv A outer s H E hr => (b_one (st_ret (s_if (t_val (s_isi2 .tList .tTuple T.b_isinstance T.b_list T.b_tuple (s_var 0) (by rfl) (by rfl))) (s_comp [("bit", 1)] rfl sc__law_lists.nd (blkOk_by (N := ["matter", "bit"]) (sc := defScope (top 32)) (by decide +kernel)) (i_seq false (s_var 0)) (fun j h => by first | simpa using h | (simp at h ⊢; omega)) (fun _ _ _ _ _ => (g_name 1 sc__law_lists.nd)) (fun _ _ _ _ _ => ts_nil) (fun _ _ _ _ _ => (s_call (fn__law_lists T k) hr takes0 (a_cons (s_var 1) a_nil) (hlen := (len_cons len_nil))))) (s_var 0))))
theorem fn_touched_by (T : Txt K mg) : FnAt P w K mg base 17 "touched_by" 3 f_touched_by := T.d_touched_by.fn sc_touched_by fun f cdv A outer s H E hr => (b_cons (st_drop (s_call (fn_changed T) (hr.mono (by decide)) (takes_of rfl rfl rfl rfl) (a_cons (s_var 1) (a_cons (s_var 2) a_nil)) (hlen := (len_cons (len_cons len_nil)))))
  (b_cons (st_set sc_touched_by.nd rfl (.inr rfl) (s_call (fn_tuple_of T 12) (hr.mono (by decide)) (takes_of rfl rfl rfl rfl) (a_cons (s_var 2) a_nil) (hlen := (len_cons len_nil))))
  (b_one (st_ret (s_ty1 b_tup T.b_tuple (by rfl) (a_cons (s_comp [("number", 4), ("stretch", 5)] rfl sc_touched_by.nd (blkOk_by (N := ["tree", "text", "change", "own", "number", "stretch"]) (sc := defScope (top 20)) (by decide +kernel)) (i_enum false (a_cons (s_call (fn_gone_over T) (hr.mono (by decide)) (takes_of rfl rfl rfl rfl) (a_cons (s_var 0) (a_cons (s_var 1) a_nil)) (hlen := (len_cons (len_cons len_nil)))) a_nil) T.b_enumerate) (fun j h => by first | simpa using h | (simp at h ⊢; omega)) (fun _ _ _ _ _ => (g_tup 2 rfl (gs_cons (g_name 4 sc_touched_by.nd) (gs_cons (g_name 5 sc_touched_by.nd) gs_nil)))) (fun _ _ _ _ _ => (ts_one (t_val (s_call (fn_is_touched T) (hr.mono (by decide)) takes0 (a_cons (s_var 5) (a_cons (s_var 3) a_nil)) (hlen := (len_cons (len_cons len_nil))))))) (fun _ _ _ _ _ => (s_var 4))) a_nil))))))
theorem fn_asked_again (T : Txt K mg) : FnAt P w K mg base 18 "asked_again" 3 f_asked_again := T.d_asked_again.fn sc_asked_again fun f cdv A outer s H E hr => (b_cons (st_parN 3 rfl sc_asked_again.nd (NGs.cons 3 (NGs.cons 4 (NGs.cons 5 NGs.nil))) (SEs.cons (s_call (fn_touched_by T) (hr.mono (by decide)) (takes_of rfl rfl rfl rfl) (a_cons (s_var 0) (a_cons (s_var 1) (a_cons (s_var 2) a_nil))) (hlen := (len_cons (len_cons (len_cons len_nil))))) (SEs.cons (s_call (fn_tuple_of T 12) (hr.mono (by decide)) (takes_of rfl rfl rfl rfl) (a_cons (s_var 0) a_nil) (hlen := (len_cons len_nil))) (SEs.cons (s_lst a_nil) SEs.nil))))
  (b_cons (st_setLc [("knot", 9)] rfl sc_asked_again.nd (blkOk_by (N := ["tree", "text", "change", "touched", "own", "found", "asks", "number", "ask", "knot"]) (sc := defScope (top 21)) (by decide +kernel)) rfl rfl (sw_true rfl rfl rfl (by decide +kernel)) (i_seq false (s_call (fn_way_of T) (hr.mono (by decide)) (takes_of rfl rfl rfl rfl) (a_cons (s_var 0) (a_cons (s_var 1) a_nil)) (hlen := (len_cons (len_cons len_nil))))) (fun j h => by first | simpa using h | (simp at h ⊢; omega)) (fun _ _ _ _ _ => (g_name 9 sc_asked_again.nd)) (fun _ _ _ _ _ => (ts_one (t_cmp (o_eq hr.units) (s_ix (s_ix (s_var 4) (s_var 9)) s_int) (s_str [97, 115, 107])))) (fun _ _ _ _ _ => (s_ix (s_var 4) (s_var 9))))
  (b_cons (st_for (passes_of rfl) rfl (i_enum true (a_cons (s_var 6) a_nil) T.b_enumerate) (g_tup 2 rfl (gs_cons (g_name 7 sc_asked_again.nd) (gs_cons (g_name 8 sc_asked_again.nd) gs_nil)))
    (b_one (st_if (SW.st (w_or (t_cmp (o_in (Room.u65 hr)) (s_var 7) (s_var 3)) (w_or1 (t_cmp (o_in (Room.u65 hr)) (s_bin o_sub (s_ix (s_var 8) s_int) s_int) (s_var 5)))))
      (b_one (st_mut F.slot_list_append (by rfl) m_app 5 (a_cons (s_var 7) a_nil)))
      b_nil)))
  (b_one (st_ret (s_ty1 b_tup T.b_tuple (by rfl) (a_cons (s_var 5) a_nil)))))))
theorem fn__law_right (T : Txt K mg) : FnAt P w K mg base 19 "_law_right" 1 f__law_right := T.d__law_right.fn sc__law_right fun f cdv A outer s H E hr => (b_cons (st_set sc__law_right.nd rfl (.inl rfl) (s_bin o_add s_int (s_call (fn__law_take T) (hr.mono (by decide)) (takes_of rfl rfl rfl rfl) (a_cons (s_var 0) (a_cons s_int a_nil)) (hlen := (len_cons (len_cons len_nil))))))
  (b_cons (st_asg (s_tup (a_cons (s_call (fn__law_tree T) (hr.mono (by decide)) (takes_of rfl rfl rfl rfl) (a_cons (s_var 0) (a_cons (s_var 1) a_nil)) (hlen := (len_cons (len_cons len_nil)))) (a_cons (s_call (fn__law_text T) (hr.mono (by decide)) (takes_of rfl rfl rfl rfl) (a_cons (s_var 0) (a_cons (s_var 1) (a_cons s_int a_nil))) (hlen := (len_cons (len_cons (len_cons len_nil))))) a_nil))) (g_tup 2 rfl (gs_cons (g_name 2 sc__law_right.nd) (gs_cons (g_name 3 sc__law_right.nd) gs_nil))))
  (b_cons (st_asg (s_call (fn__law_run T) (hr.mono (by decide)) (takes_of rfl rfl rfl rfl) (a_cons (s_var 2) (a_cons (s_var 3) a_nil)) (hlen := (len_cons (len_cons len_nil)))) (g_tup 3 rfl (gs_cons (g_name 4 sc__law_right.nd) (gs_cons (g_name 5 sc__law_right.nd) (gs_cons (g_name 6 sc__law_right.nd) gs_nil)))))
  (b_cons (st_if (t_not (t_val (s_call (fn__law_same T 12) (hr.mono (by decide)) (takes_of rfl rfl rfl rfl) (a_cons (s_lst (a_cons (s_call (fn_gone_over T) (hr.mono (by decide)) (takes_of rfl rfl rfl rfl) (a_cons (s_var 2) (a_cons (s_var 3) a_nil)) (hlen := (len_cons (len_cons len_nil)))) (a_cons (s_call (fn_gone_over T) (hr.mono (by decide)) (takes_of rfl rfl rfl rfl) (a_cons (s_call (fn__law_lists T 12) (hr.mono (by decide)) (takes_of rfl rfl rfl rfl) (a_cons (s_var 2) a_nil) (hlen := (len_cons len_nil))) (a_cons (s_ty1 b_lst T.b_list (by rfl) (a_cons (s_var 3) a_nil)) a_nil)) (hlen := (len_cons (len_cons len_nil)))) a_nil))) (a_cons (s_bin o_mul (s_lst (a_cons (s_ty1 b_tup T.b_tuple (by rfl) (a_cons (s_comp [("own", 17)] rfl sc__law_right.nd (blkOk_by (N := ["urn", "wide", "tree_so", "word_so", "rows", "yes", "way_so", "changes_so", "touching", "turned_so", "change", "later", "mine", "knots_so", "hit", "again_so", "k", "own", "stays_so", "place_so"]) (sc := defScope (top 46)) (by decide +kernel)) (i_seq false (s_var 4)) (fun j h => by first | simpa using h | (simp at h ⊢; omega)) (fun _ _ _ _ _ => (g_name 17 sc__law_right.nd)) (fun _ _ _ _ _ => ts_nil) (fun _ _ _ _ _ => (s_cut (s_var 17) (p_at s_int) p_no))) a_nil)) a_nil)) s_int) a_nil)) (hlen := (len_cons (len_cons len_nil))))))
    (b_one (st_ret s_bl))
    b_nil)
  (b_cons (st_asg (s_tup (a_cons (s_call (fn__law_changes T) (hr.mono (by decide)) (takes_of rfl rfl rfl rfl) (a_cons (s_var 1) (a_cons (s_bl1 b_len T.b_len (by rfl) (a_cons (s_var 3) a_nil)) a_nil)) (hlen := (len_cons (len_cons len_nil)))) (a_cons (s_lst a_nil) (a_cons (s_lst a_nil) a_nil)))) (g_tup 3 rfl (gs_cons (g_name 7 sc__law_right.nd) (gs_cons (g_name 8 sc__law_right.nd) (gs_cons (g_name 9 sc__law_right.nd) gs_nil)))))
  (b_cons (st_for (passes_of rfl) rfl (i_seq true (s_var 7)) (g_name 10 sc__law_right.nd)
    (b_cons (st_asg (s_call (fn__law_run T) (hr.mono (by decide)) (takes_of rfl rfl rfl rfl) (a_cons (s_var 2) (a_cons (s_call (fn__law_behind_change T) (hr.mono (by decide)) (takes_of rfl rfl rfl rfl) (a_cons (s_var 3) (a_cons (s_var 10) a_nil)) (hlen := (len_cons (len_cons len_nil)))) a_nil)) (hlen := (len_cons (len_cons len_nil)))) (g_tup 3 rfl (gs_cons (g_name 11 sc__law_right.nd) (gs_cons (g_name 12 sc__law_right.nd) (gs_cons (g_name 13 sc__law_right.nd) gs_nil)))))
    (b_cons (st_setLc [("k", 16), ("own", 17)] rfl sc__law_right.nd (blkOk_by (N := ["urn", "wide", "tree_so", "word_so", "rows", "yes", "way_so", "changes_so", "touching", "turned_so", "change", "later", "mine", "knots_so", "hit", "again_so", "k", "own", "stays_so", "place_so"]) (sc := defScope (top 46)) (by decide +kernel)) rfl rfl (sw_true rfl rfl rfl (by decide +kernel)) (i_enum false (a_cons (s_var 4) a_nil) T.b_enumerate) (fun j h => by first | simpa using h | (simp at h ⊢; omega)) (fun _ _ _ _ _ => (g_tup 2 rfl (gs_cons (g_name 16 sc__law_right.nd) (gs_cons (g_name 17 sc__law_right.nd) gs_nil)))) (fun _ _ _ _ _ => (ts_one (t_val (s_call (fn__law_touched T) (hr.mono (by decide)) takes0 (a_cons (s_var 17) (a_cons (s_var 3) (a_cons (s_var 10) a_nil))) (hlen := (len_cons (len_cons (len_cons len_nil)))))))) (fun _ _ _ _ _ => (s_var 16)))
    (b_cons (st_set sc__law_right.nd rfl (.inr rfl) (s_bin o_add (s_var 8) (s_if (t_cmp (o_ne hr.units) (s_var 14) (s_lst a_nil)) (s_lst (a_cons (s_var 10) a_nil)) (s_lst a_nil))))
    (b_cons (st_set sc__law_right.nd rfl (.inl rfl) (s_bin o_add (s_var 9) (s_if (t_cmp (o_ne hr.units) (s_var 12) (s_var 5)) (s_lst (a_cons (s_var 10) a_nil)) (s_lst a_nil))))
    (b_one (st_if (SW.st (w_and (t_cmp (o_eq hr.units) (s_var 14) (s_lst a_nil)) (w_and1 (t_cmp (o_ne hr.units) (s_var 13) (s_var 6)))))
      (b_one (st_ret s_bl))
      b_nil)))))))
  (b_cons (st_if (t_not (t_val (s_call (fn__law_same T 12) (hr.mono (by decide)) (takes_of rfl rfl rfl rfl) (a_cons (s_lst (a_cons (s_call (fn_can_turn T) (hr.mono (by decide)) (takes_of rfl rfl rfl rfl) (a_cons (s_var 1) (a_cons (s_var 2) (a_cons (s_var 3) a_nil))) (hlen := (len_cons (len_cons (len_cons len_nil))))) (a_cons (s_call (fn_turning T) (hr.mono (by decide)) (takes_of rfl rfl rfl rfl) (a_cons (s_var 1) (a_cons (s_var 2) (a_cons (s_var 3) a_nil))) (hlen := (len_cons (len_cons (len_cons len_nil))))) (a_cons (s_call (fn_turning T) (hr.mono (by decide)) (takes_of rfl rfl rfl rfl) (a_cons (s_var 1) (a_cons (s_call (fn__law_lists T 12) (hr.mono (by decide)) (takes_of rfl rfl rfl rfl) (a_cons (s_var 2) a_nil) (hlen := (len_cons len_nil))) (a_cons (s_ty1 b_lst T.b_list (by rfl) (a_cons (s_var 3) a_nil)) a_nil))) (hlen := (len_cons (len_cons (len_cons len_nil))))) a_nil)))) (a_cons (s_lst (a_cons (s_ty1 b_tup T.b_tuple (by rfl) (a_cons (s_var 8) a_nil)) (a_cons (s_ty1 b_tup T.b_tuple (by rfl) (a_cons (s_var 9) a_nil)) (a_cons (s_ty1 b_tup T.b_tuple (by rfl) (a_cons (s_var 9) a_nil)) a_nil)))) a_nil)) (hlen := (len_cons (len_cons len_nil))))))
    (b_one (st_ret s_bl))
    b_nil)
  (b_cons (st_if (t_cmp (o_ne hr.units) (s_comp [("own", 17)] rfl sc__law_right.nd (blkOk_by (N := ["urn", "wide", "tree_so", "word_so", "rows", "yes", "way_so", "changes_so", "touching", "turned_so", "change", "later", "mine", "knots_so", "hit", "again_so", "k", "own", "stays_so", "place_so"]) (sc := defScope (top 46)) (by decide +kernel)) (i_seq false (s_var 9)) (fun j h => by first | simpa using h | (simp at h ⊢; omega)) (fun _ _ _ _ _ => (g_name 17 sc__law_right.nd)) (fun _ _ _ _ _ => (ts_one (t_cmp (o_notin (Room.u65 hr)) (s_var 17) (s_var 8)))) (fun _ _ _ _ _ => (s_var 17))) (s_lst a_nil))
    (b_one (st_ret s_bl))
    b_nil)
  (b_cons (st_for (passes_of rfl) rfl (i_seq true (s_call (fn__law_pick T) (hr.mono (by decide)) (takes_of rfl rfl rfl rfl) (a_cons (s_var 0) (a_cons (s_var 7) (a_cons s_int a_nil))) (hlen := (len_cons (len_cons (len_cons len_nil)))))) (g_name 10 sc__law_right.nd)
    (b_cons (st_parV rfl sc__law_right.nd rfl rfl (by decide) rfl rfl (s_comp [("k", 16), ("own", 17)] rfl sc__law_right.nd (blkOk_by (N := ["urn", "wide", "tree_so", "word_so", "rows", "yes", "way_so", "changes_so", "touching", "turned_so", "change", "later", "mine", "knots_so", "hit", "again_so", "k", "own", "stays_so", "place_so"]) (sc := defScope (top 46)) (by decide +kernel)) (i_enum false (a_cons (s_var 4) a_nil) T.b_enumerate) (fun j h => by first | simpa using h | (simp at h ⊢; omega)) (fun _ _ _ _ _ => (g_tup 2 rfl (gs_cons (g_name 16 sc__law_right.nd) (gs_cons (g_name 17 sc__law_right.nd) gs_nil)))) (fun _ _ _ _ _ => (ts_one (t_val (s_call (fn__law_touched T) (hr.mono (by decide)) takes0 (a_cons (s_var 17) (a_cons (s_var 3) (a_cons (s_var 10) a_nil))) (hlen := (len_cons (len_cons (len_cons len_nil)))))))) (fun _ _ _ _ _ => (s_var 16))) (s_lst a_nil) (by rfl))
    (b_cons (st_for (passes_of rfl) rfl (i_enum true (a_cons (s_var 4) a_nil) T.b_enumerate) (g_tup 2 rfl (gs_cons (g_name 16 sc__law_right.nd) (gs_cons (g_name 17 sc__law_right.nd) gs_nil)))
      (b_one (st_if (SW.st (w_or (t_cmp (o_in (Room.u65 hr)) (s_var 16) (s_var 14)) (w_or1 (t_cmp (o_in (Room.u65 hr)) (s_bin o_sub (s_ix (s_var 17) s_int) s_int) (s_var 15)))))
        (b_one (st_mut F.slot_list_append (by rfl) m_app 15 (a_cons (s_var 16) a_nil)))
        b_nil)))
    (b_cons (st_if (t_not (t_val (s_call (fn__law_same T 12) (hr.mono (by decide)) (takes_of rfl rfl rfl rfl) (a_cons (s_lst (a_cons (s_call (fn_touched_by T) (hr.mono (by decide)) (takes_of rfl rfl rfl rfl) (a_cons (s_var 2) (a_cons (s_var 3) (a_cons (s_var 10) a_nil))) (hlen := (len_cons (len_cons (len_cons len_nil))))) (a_cons (s_call (fn_asked_again T) (hr.mono (by decide)) (takes_of rfl rfl rfl rfl) (a_cons (s_call (fn__law_lists T 12) (hr.mono (by decide)) (takes_of rfl rfl rfl rfl) (a_cons (s_var 2) a_nil) (hlen := (len_cons len_nil))) (a_cons (s_ty1 b_lst T.b_list (by rfl) (a_cons (s_var 3) a_nil)) (a_cons (s_ty1 b_lst T.b_list (by rfl) (a_cons (s_var 10) a_nil)) a_nil))) (hlen := (len_cons (len_cons (len_cons len_nil))))) a_nil))) (a_cons (s_lst (a_cons (s_ty1 b_tup T.b_tuple (by rfl) (a_cons (s_var 14) a_nil)) (a_cons (s_ty1 b_tup T.b_tuple (by rfl) (a_cons (s_var 15) a_nil)) a_nil))) a_nil)) (hlen := (len_cons (len_cons len_nil))))))
      (b_one (st_ret s_bl))
      b_nil)
    (b_cons (st_set sc__law_right.nd rfl (.inl rfl) (s_ix (s_call (fn__law_run T) (hr.mono (by decide)) (takes_of rfl rfl rfl rfl) (a_cons (s_var 2) (a_cons (s_call (fn__law_behind_change T) (hr.mono (by decide)) (takes_of rfl rfl rfl rfl) (a_cons (s_var 3) (a_cons (s_var 10) a_nil)) (hlen := (len_cons (len_cons len_nil)))) a_nil)) (hlen := (len_cons (len_cons len_nil)))) s_int))
    (b_cons (st_for (passes_of rfl) rfl (i_range1 true (a_cons (s_bl1 (b_min rfl) T.b_min (by rfl) (a_cons (s_bl1 b_len T.b_len (by rfl) (a_cons (s_var 4) a_nil)) (a_cons (s_bl1 b_len T.b_len (by rfl) (a_cons (s_var 11) a_nil)) a_nil))) a_nil) T.b_range) (g_name 16 sc__law_right.nd)
      (b_cons (st_if (t_cmp (o_ne hr.units) (s_tup (a_cons (s_ix (s_ix (s_var 11) (s_var 16)) s_int) (a_cons (s_ix (s_ix (s_var 11) (s_var 16)) s_int) (a_cons (s_ix (s_ix (s_var 11) (s_var 16)) s_int) a_nil)))) (s_tup (a_cons (s_ix (s_ix (s_var 4) (s_var 16)) s_int) (a_cons (s_ix (s_ix (s_var 4) (s_var 16)) s_int) (a_cons (s_ix (s_ix (s_var 4) (s_var 16)) s_int) a_nil)))))
        (b_one st_break)
        b_nil)
      (b_cons (st_set sc__law_right.nd rfl (.inl rfl) (s_cmp (o_eq hr.units) (s_ix (s_ix (s_var 11) (s_var 16)) s_int) (s_call (fn__law_moved T) (hr.mono (by decide)) (takes_of rfl rfl rfl rfl) (a_cons (s_var 10) (a_cons (s_ix (s_ix (s_var 4) (s_var 16)) s_int) a_nil)) (hlen := (len_cons (len_cons len_nil))))))
      (b_one (st_if (SW.st (w_or (SW.st (w_and (t_cmp (o_notin (Room.u65 hr)) (s_var 16) (s_var 15)) (w_and1 (t_not (t_val (s_var 18)))))) (w_or1 (SW.st (w_and (t_cmp (o_eq hr.units) (s_cut (s_var 14) p_no (p_at s_int)) (s_lst (a_cons (s_var 16) a_nil))) (w_and1 (t_val (s_var 18))))))))
        (b_one (st_ret s_bl))
        b_nil)))))
    (b_cons (st_set sc__law_right.nd rfl (.inl rfl) (s_call (fn__law_take T) (hr.mono (by decide)) (takes_of rfl rfl rfl rfl) (a_cons (s_var 0) (a_cons (s_bin o_add (s_bl1 b_len T.b_len (by rfl) (a_cons (s_var 3) a_nil)) s_int) a_nil)) (hlen := (len_cons (len_cons len_nil)))))
    (b_one (st_if (t_not (t_val (s_call (fn__law_same T 12) (hr.mono (by decide)) (takes_of rfl rfl rfl rfl) (a_cons (s_call (fn_place_behind T) (hr.mono (by decide)) (takes_of rfl rfl rfl rfl) (a_cons (s_var 3) (a_cons (s_var 10) (a_cons (s_var 19) a_nil))) (hlen := (len_cons (len_cons (len_cons len_nil))))) (a_cons (s_call (fn__law_moved T) (hr.mono (by decide)) (takes_of rfl rfl rfl rfl) (a_cons (s_var 10) (a_cons (s_var 19) a_nil)) (hlen := (len_cons (len_cons len_nil)))) a_nil)) (hlen := (len_cons (len_cons len_nil))))))
      (b_one (st_ret s_bl))
      b_nil)))))))))
  (b_one (st_ret s_bl)))))))))))
theorem fn__law_front_right (T : Txt K mg) : FnAt P w K mg base 19 "_law_front_right" 0 f__law_front_right := T.d__law_front_right.fn sc__law_front_right fun f cdv A outer s H E hr => (b_cons (st_asg (s_tup (a_cons (s_tup (a_cons (s_tup (a_cons (s_str [97, 115, 107]) (a_cons s_int (a_cons (s_str [110, 101, 120, 116]) (a_cons (s_tup (a_cons s_int a_nil)) (a_cons s_int a_nil)))))) (a_cons (s_tup (a_cons (s_str [97, 115, 107]) (a_cons s_int (a_cons (s_str [108, 97, 115, 116]) (a_cons (s_tup (a_cons s_int a_nil)) (a_cons s_int a_nil)))))) (a_cons (s_tup (a_cons (s_str [111, 114, 100, 101, 114]) (a_cons s_int (a_cons s_int (a_cons s_int (a_cons s_int (a_cons s_int a_nil))))))) (a_cons (s_tup (a_cons (s_str [115, 97, 121]) (a_cons s_bl a_nil))) (a_cons (s_tup (a_cons (s_str [115, 97, 121]) (a_cons s_bl a_nil))) a_nil)))))) (a_cons (s_tup (a_cons s_int (a_cons s_int (a_cons s_int a_nil)))) a_nil))) (g_tup 2 rfl (gs_cons (g_name 0 sc__law_front_right.nd) (gs_cons (g_name 1 sc__law_front_right.nd) gs_nil))))
  (b_cons (st_set sc__law_front_right.nd rfl (.inl rfl) (s_lst (a_cons (s_call (fn_gone_over T) (hr.mono (by decide)) (takes_of rfl rfl rfl rfl) (a_cons (s_var 0) (a_cons (s_var 1) a_nil)) (hlen := (len_cons (len_cons len_nil)))) (a_cons (s_comp [("own", 3)] rfl sc__law_front_right.nd (blkOk_by (N := ["early", "word_so", "got", "own"]) (sc := defScope (top 37)) (by decide +kernel)) (i_seq false (s_tup (a_cons (s_tup (a_cons (s_str [112, 117, 116]) (a_cons s_int (a_cons s_int a_nil)))) (a_cons (s_tup (a_cons (s_str [100, 114, 111, 112]) (a_cons s_int a_nil))) (a_cons (s_tup (a_cons (s_str [116, 117, 114, 110]) (a_cons s_int (a_cons s_int a_nil)))) (a_cons (s_tup (a_cons (s_str [112, 117, 116]) (a_cons s_int (a_cons s_int a_nil)))) (a_cons (s_tup (a_cons (s_str [116, 117, 114, 110]) (a_cons s_int (a_cons s_int a_nil)))) a_nil))))))) (fun j h => by first | simpa using h | (simp at h ⊢; omega)) (fun _ _ _ _ _ => (g_name 3 sc__law_front_right.nd)) (fun _ _ _ _ _ => ts_nil) (fun _ _ _ _ _ => (s_call (fn_touched_by T) (hr.mono (by decide)) takes0 (a_cons (s_var 0) (a_cons (s_var 1) (a_cons (s_var 3) a_nil))) (hlen := (len_cons (len_cons (len_cons len_nil))))))) (a_cons (s_call (fn_asked_again T) (hr.mono (by decide)) (takes_of rfl rfl rfl rfl) (a_cons (s_var 0) (a_cons (s_var 1) (a_cons (s_tup (a_cons (s_str [112, 117, 116]) (a_cons s_int (a_cons s_int a_nil)))) a_nil))) (hlen := (len_cons (len_cons (len_cons len_nil))))) (a_cons (s_bl1 b_len T.b_len (by rfl) (a_cons (s_call (fn_can_turn T) (hr.mono (by decide)) (takes_of rfl rfl rfl rfl) (a_cons s_int (a_cons (s_var 0) (a_cons (s_var 1) a_nil))) (hlen := (len_cons (len_cons (len_cons len_nil))))) a_nil)) (a_cons (s_call (fn_turning T) (hr.mono (by decide)) (takes_of rfl rfl rfl rfl) (a_cons s_int (a_cons (s_var 0) (a_cons (s_var 1) a_nil))) (hlen := (len_cons (len_cons (len_cons len_nil))))) (a_cons (s_call (fn_place_behind T) (hr.mono (by decide)) (takes_of rfl rfl rfl rfl) (a_cons (s_var 1) (a_cons (s_tup (a_cons (s_str [100, 114, 111, 112]) (a_cons s_int a_nil))) (a_cons s_int a_nil))) (hlen := (len_cons (len_cons (len_cons len_nil))))) a_nil))))))))
  (b_one (st_ret (s_call (fn__law_same T 12) (hr.mono (by decide)) (takes_of rfl rfl rfl rfl) (a_cons (s_var 2) (a_cons (s_lst (a_cons (s_tup (a_cons (s_tup (a_cons (s_str [110, 101, 120, 116]) (a_cons s_int (a_cons s_int (a_cons (s_tup (a_cons s_int a_nil)) a_nil))))) (a_cons (s_tup (a_cons (s_str [108, 97, 115, 116]) (a_cons s_int (a_cons s_int (a_cons (s_tup (a_cons s_int a_nil)) a_nil))))) a_nil))) (a_cons (s_lst (a_cons (s_tup (a_cons s_int a_nil)) (a_cons (s_tup (a_cons s_int a_nil)) (a_cons (s_tup (a_cons s_int (a_cons s_int a_nil))) (a_cons (s_tup a_nil) (a_cons (s_tup a_nil) a_nil)))))) (a_cons (s_tup (a_cons s_int (a_cons s_int a_nil))) (a_cons s_int (a_cons (s_tup (a_cons (s_tup (a_cons (s_str [100, 114, 111, 112]) (a_cons s_int a_nil))) (a_cons (s_tup (a_cons (s_str [112, 117, 116]) (a_cons s_int (a_cons s_int a_nil)))) (a_cons (s_tup (a_cons (s_str [116, 117, 114, 110]) (a_cons s_int (a_cons s_int a_nil)))) a_nil)))) (a_cons s_int a_nil))))))) a_nil)) (hlen := (len_cons (len_cons len_nil))))))))
theorem fn__law_box (T : Txt K mg) : FnAt P w K mg base 1 "_law_box" 2 f__law_box := T.d__law_box.fn sc__law_box fun f cdv A outer s H E hr => (b_cons (st_set sc__law_box.nd rfl (.inl rfl) (s_if (t_cmp (o_lt hr.units) (s_var 1) (s_bl1 b_len T.b_len (by rfl) (a_cons (s_var 0) a_nil))) (s_ix (s_var 0) (s_var 1)) s_int))
  (b_one (st_ret (s_lst (a_cons (s_bin o_mul (s_bl1 b_abs T.b_abs (by rfl) (a_cons (s_var 2) a_nil)) (s_ty1 b_int T.b_int (by rfl) (a_cons (s_cmp (o_ge hr.units) (s_bl1 b_abs T.b_abs (by rfl) (a_cons (s_var 2) a_nil)) (s_bin o_pow s_int s_int)) a_nil))) (a_cons (s_bin o_add (s_bin o_add (s_bin o_mod (s_ty1 b_int T.b_int (by rfl) (a_cons (s_var 2) a_nil)) s_int) (s_bin o_mul s_int (s_var 1))) s_int) (a_cons s_int a_nil)))))))
theorem fn__law_cells (T : Txt K mg) : FnAt P w K mg base 1 "_law_cells" 2 f__law_cells := T.d__law_cells.fn sc__law_cells fun f cdv A outer s H E hr => (b_cons (st_var sc__law_cells.nd rfl (.inl rfl) (s_orT (s_ty1 b_lst T.b_list (by rfl) (a_cons (s_cut (s_var 0) p_no (p_at (s_var 1))) a_nil)) (s_one (s_lst (a_cons s_int a_nil)))))
  (b_cons (st_for (passes_of rfl) rfl (i_enum true (a_cons (s_cut (s_var 0) (p_at (s_var 1)) (p_at s_int)) a_nil) T.b_enumerate) (g_tup 2 rfl (gs_cons (g_name 3 sc__law_cells.nd) (gs_cons (g_name 4 sc__law_cells.nd) gs_nil)))
    (b_cons (st_set sc__law_cells.nd rfl (.inl rfl) (s_bin o_mod (s_ty1 b_int T.b_int (by rfl) (a_cons (s_var 3) a_nil)) (s_var 1)))
    (b_one (st_put 2 (s_var 5) (s_bin o_add (s_ix (s_var 2) (s_var 5)) (s_bin o_mul (s_var 4) (s_bin o_add (s_var 3) s_int)))))))
  (st_fz 2 (b_one (st_ret (s_var 2))))))
theorem all_mk {l : PySem.W.OpenLaw} {w : World} {K : PySem.W.Frag} {h : Heap} {mg : Str → Option Value} {fa : Addr} (X : K.In h) (G : h.Ns mainGlobals mg) (hfa : mg "law" = some (.ref fa))
    {g0 g1 g2 g3 g4 g5 g6 g7 g8 g9 g10 g11 g12 g13 g14 g15 g16 g17 g18 g19 g20 g21 g22 g23 g24 g25 g26 g27 g28 g29 g30 g31 g32 g33 g34 g35 g36 g37 g38 g39 : Addr} {od0 an0 od1 an1 od2 an2 od3 an3 od4 an4 od5 an5 od6 an6 od7 an7 od8 an8 od9 an9 od10 an10 od11 an11 od12 an12 od13 an13 od14 an14 od15 an15 od16 an16 od17 an17 od18 an18 od19 an19 od20 an20 od21 an21 od22 an22 od23 an23 od24 an24 od25 an25 od26 an26 od27 an27 od28 an28 od29 an29 od30 an30 od31 an31 od32 an32 od33 an33 od34 an34 od35 an35 od36 an36 od37 an37 od38 an38 od39 an39 : Option Addr} {sl0 sl1 sl2 sl3 sl4 sl5 sl6 sl7 sl8 sl9 sl10 sl11 sl12 sl13 sl14 sl15 sl16 sl17 sl18 sl19 sl20 sl21 sl22 sl23 sl24 sl25 sl26 sl27 sl28 sl29 sl30 sl31 sl32 sl33 sl34 sl35 sl36 sl37 sl38 sl39 : Array (Option Value)} {oc0 kV0 dc0 pm0 cd0 ct0 oc1 kV1 dc1 pm1 cd1 ct1 oc2 kV2 dc2 pm2 cd2 ct2 oc3 kV3 dc3 pm3 cd3 ct3 oc4 kV4 dc4 pm4 cd4 ct4 oc5 kV5 dc5 pm5 cd5 ct5 oc6 kV6 dc6 pm6 cd6 ct6 oc7 kV7 dc7 pm7 cd7 ct7 oc8 kV8 dc8 pm8 cd8 ct8 oc9 kV9 dc9 pm9 cd9 ct9 oc10 kV10 dc10 pm10 cd10 ct10 oc11 kV11 dc11 pm11 cd11 ct11 oc12 kV12 dc12 pm12 cd12 ct12 oc13 kV13 dc13 pm13 cd13 ct13 oc14 kV14 dc14 pm14 cd14 ct14 oc15 kV15 dc15 pm15 cd15 ct15 oc16 kV16 dc16 pm16 cd16 ct16 oc17 kV17 dc17 pm17 cd17 ct17 oc18 kV18 dc18 pm18 cd18 ct18 oc19 kV19 dc19 pm19 cd19 ct19 oc20 kV20 dc20 pm20 cd20 ct20 oc21 kV21 dc21 pm21 cd21 ct21 oc22 kV22 dc22 pm22 cd22 ct22 oc23 kV23 dc23 pm23 cd23 ct23 oc24 kV24 dc24 pm24 cd24 ct24 oc25 kV25 dc25 pm25 cd25 ct25 oc26 kV26 dc26 pm26 cd26 ct26 oc27 kV27 dc27 pm27 cd27 ct27 oc28 kV28 dc28 pm28 cd28 ct28 oc29 kV29 dc29 pm29 cd29 ct29 oc30 kV30 dc30 pm30 cd30 ct30 oc31 kV31 dc31 pm31 cd31 ct31 oc32 kV32 dc32 pm32 cd32 ct32 oc33 kV33 dc33 pm33 cd33 ct33 oc34 kV34 dc34 pm34 cd34 ct34 oc35 kV35 dc35 pm35 cd35 ct35 oc36 kV36 dc36 pm36 cd36 ct36 oc37 kV37 dc37 pm37 cd37 ct37 oc38 kV38 dc38 pm38 cd38 ct38 oc39 kV39 dc39 pm39 cd39 ct39 : Value}
    (a0 : PySem.W.nsIn K mainGlobals "_law_found" = some (some (.ref g0))) (l0 : K.lookup g0 = some ⟨oc0, od0, .func (PySem.W.fnOf "_law_found" "_law_found" (defArgs (top 36)) (defBody (top 36)) (defScope (top 36)) .none kV0 dc0 pm0 an0 cd0 ct0), sl0⟩) (c0 : PySem.W.codeIn K cd0 "_law_found" = true) (k0 : PySem.W.keepIn K (.ref g0) = true)
    (a1 : PySem.W.nsIn K mainGlobals "_law_run" = some (some (.ref g1))) (l1 : K.lookup g1 = some ⟨oc1, od1, .func (PySem.W.fnOf "_law_run" "_law_run" (defArgs (top 41)) (defBody (top 41)) (defScope (top 41)) .none kV1 dc1 pm1 an1 cd1 ct1), sl1⟩) (c1 : PySem.W.codeIn K cd1 "_law_run" = true) (k1 : PySem.W.keepIn K (.ref g1) = true)
    (a2 : PySem.W.nsIn K mainGlobals "_law_take" = some (some (.ref g2))) (l2 : K.lookup g2 = some ⟨oc2, od2, .func (PySem.W.fnOf "_law_take" "_law_take" (defArgs (top 28)) (defBody (top 28)) (defScope (top 28)) .none kV2 dc2 pm2 an2 cd2 ct2), sl2⟩) (c2 : PySem.W.codeIn K cd2 "_law_take" = true) (k2 : PySem.W.keepIn K (.ref g2) = true)
    (a3 : PySem.W.nsIn K mainGlobals "_law_pick" = some (some (.ref g3))) (l3 : K.lookup g3 = some ⟨oc3, od3, .func (PySem.W.fnOf "_law_pick" "_law_pick" (defArgs (top 31)) (defBody (top 31)) (defScope (top 31)) .none kV3 dc3 pm3 an3 cd3 ct3), sl3⟩) (c3 : PySem.W.codeIn K cd3 "_law_pick" = true) (k3 : PySem.W.keepIn K (.ref g3) = true)
    (a4 : PySem.W.nsIn K mainGlobals "_law_of" = some (some (.ref g4))) (l4 : K.lookup g4 = some ⟨oc4, od4, .func (PySem.W.fnOf "_law_of" "_law_of" (defArgs (top 30)) (defBody (top 30)) (defScope (top 30)) .none kV4 dc4 pm4 an4 cd4 ct4), sl4⟩) (c4 : PySem.W.codeIn K cd4 "_law_of" = true) (k4 : PySem.W.keepIn K (.ref g4) = true)
    (a5 : PySem.W.nsIn K mainGlobals "_law_letters_of" = some (some (.ref g5))) (l5 : K.lookup g5 = some ⟨oc5, od5, .func (PySem.W.fnOf "_law_letters_of" "_law_letters_of" (defArgs (top 35)) (defBody (top 35)) (defScope (top 35)) .none kV5 dc5 pm5 an5 cd5 ct5), sl5⟩) (c5 : PySem.W.codeIn K cd5 "_law_letters_of" = true) (k5 : PySem.W.keepIn K (.ref g5) = true)
    (a6 : PySem.W.nsIn K mainGlobals "_law_ask" = some (some (.ref g6))) (l6 : K.lookup g6 = some ⟨oc6, od6, .func (PySem.W.fnOf "_law_ask" "_law_ask" (defArgs (top 38)) (defBody (top 38)) (defScope (top 38)) .none kV6 dc6 pm6 an6 cd6 ct6), sl6⟩) (c6 : PySem.W.codeIn K cd6 "_law_ask" = true) (k6 : PySem.W.keepIn K (.ref g6) = true)
    (a7 : PySem.W.nsIn K mainGlobals "_law_order" = some (some (.ref g7))) (l7 : K.lookup g7 = some ⟨oc7, od7, .func (PySem.W.fnOf "_law_order" "_law_order" (defArgs (top 39)) (defBody (top 39)) (defScope (top 39)) .none kV7 dc7 pm7 an7 cd7 ct7), sl7⟩) (c7 : PySem.W.codeIn K cd7 "_law_order" = true) (k7 : PySem.W.keepIn K (.ref g7) = true)
    (a8 : PySem.W.nsIn K mainGlobals "_law_tree" = some (some (.ref g8))) (l8 : K.lookup g8 = some ⟨oc8, od8, .func (PySem.W.fnOf "_law_tree" "_law_tree" (defArgs (top 40)) (defBody (top 40)) (defScope (top 40)) .none kV8 dc8 pm8 an8 cd8 ct8), sl8⟩) (c8 : PySem.W.codeIn K cd8 "_law_tree" = true) (k8 : PySem.W.keepIn K (.ref g8) = true)
    (a9 : PySem.W.nsIn K mainGlobals "_law_text" = some (some (.ref g9))) (l9 : K.lookup g9 = some ⟨oc9, od9, .func (PySem.W.fnOf "_law_text" "_law_text" (defArgs (top 34)) (defBody (top 34)) (defScope (top 34)) .none kV9 dc9 pm9 an9 cd9 ct9), sl9⟩) (c9 : PySem.W.codeIn K cd9 "_law_text" = true) (k9 : PySem.W.keepIn K (.ref g9) = true)
    (a10 : PySem.W.nsIn K mainGlobals "_law_same" = some (some (.ref g10))) (l10 : K.lookup g10 = some ⟨oc10, od10, .func (PySem.W.fnOf "_law_same" "_law_same" (defArgs (top 33)) (defBody (top 33)) (defScope (top 33)) .none kV10 dc10 pm10 an10 cd10 ct10), sl10⟩) (c10 : PySem.W.codeIn K cd10 "_law_same" = true) (k10 : PySem.W.keepIn K (.ref g10) = true)
    (a11 : PySem.W.nsIn K mainGlobals "_law_changes" = some (some (.ref g11))) (l11 : K.lookup g11 = some ⟨oc11, od11, .func (PySem.W.fnOf "_law_changes" "_law_changes" (defArgs (top 45)) (defBody (top 45)) (defScope (top 45)) .none kV11 dc11 pm11 an11 cd11 ct11), sl11⟩) (c11 : PySem.W.codeIn K cd11 "_law_changes" = true) (k11 : PySem.W.keepIn K (.ref g11) = true)
    (a12 : PySem.W.nsIn K mainGlobals "_law_behind_change" = some (some (.ref g12))) (l12 : K.lookup g12 = some ⟨oc12, od12, .func (PySem.W.fnOf "_law_behind_change" "_law_behind_change" (defArgs (top 42)) (defBody (top 42)) (defScope (top 42)) .none kV12 dc12 pm12 an12 cd12 ct12), sl12⟩) (c12 : PySem.W.codeIn K cd12 "_law_behind_change" = true) (k12 : PySem.W.keepIn K (.ref g12) = true)
    (a13 : PySem.W.nsIn K mainGlobals "tuple_of" = some (some (.ref g13))) (l13 : K.lookup g13 = some ⟨oc13, od13, .func (PySem.W.fnOf "tuple_of" "tuple_of" (defArgs (top 2)) (defBody (top 2)) (defScope (top 2)) .none kV13 dc13 pm13 an13 cd13 ct13), sl13⟩) (c13 : PySem.W.codeIn K cd13 "tuple_of" = true) (k13 : PySem.W.keepIn K (.ref g13) = true)
    (a14 : PySem.W.nsIn K mainGlobals "is_number" = some (some (.ref g14))) (l14 : K.lookup g14 = some ⟨oc14, od14, .func (PySem.W.fnOf "is_number" "is_number" (defArgs (top 1)) (defBody (top 1)) (defScope (top 1)) .none kV14 dc14 pm14 an14 cd14 ct14), sl14⟩) (c14 : PySem.W.codeIn K cd14 "is_number" = true) (k14 : PySem.W.keepIn K (.ref g14) = true)
    (a15 : PySem.W.nsIn K mainGlobals "sure_place" = some (some (.ref g15))) (l15 : K.lookup g15 = some ⟨oc15, od15, .func (PySem.W.fnOf "sure_place" "sure_place" (defArgs (top 6)) (defBody (top 6)) (defScope (top 6)) .none kV15 dc15 pm15 an15 cd15 ct15), sl15⟩) (c15 : PySem.W.codeIn K cd15 "sure_place" = true) (k15 : PySem.W.keepIn K (.ref g15) = true)
    (a16 : PySem.W.nsIn K mainGlobals "next_place" = some (some (.ref g16))) (l16 : K.lookup g16 = some ⟨oc16, od16, .func (PySem.W.fnOf "next_place" "next_place" (defArgs (top 7)) (defBody (top 7)) (defScope (top 7)) .none kV16 dc16 pm16 an16 cd16 ct16), sl16⟩) (c16 : PySem.W.codeIn K cd16 "next_place" = true) (k16 : PySem.W.keepIn K (.ref g16) = true)
    (a17 : PySem.W.nsIn K mainGlobals "last_place" = some (some (.ref g17))) (l17 : K.lookup g17 = some ⟨oc17, od17, .func (PySem.W.fnOf "last_place" "last_place" (defArgs (top 8)) (defBody (top 8)) (defScope (top 8)) .none kV17 dc17 pm17 an17 cd17 ct17), sl17⟩) (c17 : PySem.W.codeIn K cd17 "last_place" = true) (k17 : PySem.W.keepIn K (.ref g17) = true)
    (a18 : PySem.W.nsIn K mainGlobals "found" = some (some (.ref g18))) (l18 : K.lookup g18 = some ⟨oc18, od18, .func (PySem.W.fnOf "found" "found" (defArgs (top 11)) (defBody (top 11)) (defScope (top 11)) .none kV18 dc18 pm18 an18 cd18 ct18), sl18⟩) (c18 : PySem.W.codeIn K cd18 "found" = true) (k18 : PySem.W.keepIn K (.ref g18) = true)
    (a19 : PySem.W.nsIn K mainGlobals "gone" = some (some (.ref g19))) (l19 : K.lookup g19 = some ⟨oc19, od19, .func (PySem.W.fnOf "gone" "gone" (defArgs (top 13)) (defBody (top 13)) (defScope (top 13)) .none kV19 dc19 pm19 an19 cd19 ct19), sl19⟩) (c19 : PySem.W.codeIn K cd19 "gone" = true) (k19 : PySem.W.keepIn K (.ref g19) = true)
    (a20 : PySem.W.nsIn K mainGlobals "run" = some (some (.ref g20))) (l20 : K.lookup g20 = some ⟨oc20, od20, .func (PySem.W.fnOf "run" "run" (defArgs (top 14)) (defBody (top 14)) (defScope (top 14)) .none kV20 dc20 pm20 an20 cd20 ct20), sl20⟩) (c20 : PySem.W.codeIn K cd20 "run" = true) (k20 : PySem.W.keepIn K (.ref g20) = true)
    (a21 : PySem.W.nsIn K mainGlobals "way_of" = some (some (.ref g21))) (l21 : K.lookup g21 = some ⟨oc21, od21, .func (PySem.W.fnOf "way_of" "way_of" (defArgs (top 16)) (defBody (top 16)) (defScope (top 16)) .none kV21 dc21 pm21 an21 cd21 ct21), sl21⟩) (c21 : PySem.W.codeIn K cd21 "way_of" = true) (k21 : PySem.W.keepIn K (.ref g21) = true)
    (a22 : PySem.W.nsIn K mainGlobals "gone_over" = some (some (.ref g22))) (l22 : K.lookup g22 = some ⟨oc22, od22, .func (PySem.W.fnOf "gone_over" "gone_over" (defArgs (top 18)) (defBody (top 18)) (defScope (top 18)) .none kV22 dc22 pm22 an22 cd22 ct22), sl22⟩) (c22 : PySem.W.codeIn K cd22 "gone_over" = true) (k22 : PySem.W.keepIn K (.ref g22) = true)
    (a23 : PySem.W.nsIn K mainGlobals "_law_moved" = some (some (.ref g23))) (l23 : K.lookup g23 = some ⟨oc23, od23, .func (PySem.W.fnOf "_law_moved" "_law_moved" (defArgs (top 43)) (defBody (top 43)) (defScope (top 43)) .none kV23 dc23 pm23 an23 cd23 ct23), sl23⟩) (c23 : PySem.W.codeIn K cd23 "_law_moved" = true) (k23 : PySem.W.keepIn K (.ref g23) = true)
    (a24 : PySem.W.nsIn K mainGlobals "_law_touched" = some (some (.ref g24))) (l24 : K.lookup g24 = some ⟨oc24, od24, .func (PySem.W.fnOf "_law_touched" "_law_touched" (defArgs (top 44)) (defBody (top 44)) (defScope (top 44)) .none kV24 dc24 pm24 an24 cd24 ct24), sl24⟩) (c24 : PySem.W.codeIn K cd24 "_law_touched" = true) (k24 : PySem.W.keepIn K (.ref g24) = true)
    (a25 : PySem.W.nsIn K mainGlobals "changes_of" = some (some (.ref g25))) (l25 : K.lookup g25 = some ⟨oc25, od25, .func (PySem.W.fnOf "changes_of" "changes_of" (defArgs (top 22)) (defBody (top 22)) (defScope (top 22)) .none kV25 dc25 pm25 an25 cd25 ct25), sl25⟩) (c25 : PySem.W.codeIn K cd25 "changes_of" = true) (k25 : PySem.W.keepIn K (.ref g25) = true)
    (a26 : PySem.W.nsIn K mainGlobals "is_touched" = some (some (.ref g26))) (l26 : K.lookup g26 = some ⟨oc26, od26, .func (PySem.W.fnOf "is_touched" "is_touched" (defArgs (top 19)) (defBody (top 19)) (defScope (top 19)) .none kV26 dc26 pm26 an26 cd26 ct26), sl26⟩) (c26 : PySem.W.codeIn K cd26 "is_touched" = true) (k26 : PySem.W.keepIn K (.ref g26) = true)
    (a27 : PySem.W.nsIn K mainGlobals "can_turn" = some (some (.ref g27))) (l27 : K.lookup g27 = some ⟨oc27, od27, .func (PySem.W.fnOf "can_turn" "can_turn" (defArgs (top 23)) (defBody (top 23)) (defScope (top 23)) .none kV27 dc27 pm27 an27 cd27 ct27), sl27⟩) (c27 : PySem.W.codeIn K cd27 "can_turn" = true) (k27 : PySem.W.keepIn K (.ref g27) = true)
    (a28 : PySem.W.nsIn K mainGlobals "answer" = some (some (.ref g28))) (l28 : K.lookup g28 = some ⟨oc28, od28, .func (PySem.W.fnOf "answer" "answer" (defArgs (top 15)) (defBody (top 15)) (defScope (top 15)) .none kV28 dc28 pm28 an28 cd28 ct28), sl28⟩) (c28 : PySem.W.codeIn K cd28 "answer" = true) (k28 : PySem.W.keepIn K (.ref g28) = true)
    (a29 : PySem.W.nsIn K mainGlobals "changed" = some (some (.ref g29))) (l29 : K.lookup g29 = some ⟨oc29, od29, .func (PySem.W.fnOf "changed" "changed" (defArgs (top 9)) (defBody (top 9)) (defScope (top 9)) .none kV29 dc29 pm29 an29 cd29 ct29), sl29⟩) (c29 : PySem.W.codeIn K cd29 "changed" = true) (k29 : PySem.W.keepIn K (.ref g29) = true)
    (a30 : PySem.W.nsIn K mainGlobals "turning" = some (some (.ref g30))) (l30 : K.lookup g30 = some ⟨oc30, od30, .func (PySem.W.fnOf "turning" "turning" (defArgs (top 24)) (defBody (top 24)) (defScope (top 24)) .none kV30 dc30 pm30 an30 cd30 ct30), sl30⟩) (c30 : PySem.W.codeIn K cd30 "turning" = true) (k30 : PySem.W.keepIn K (.ref g30) = true)
    (a31 : PySem.W.nsIn K mainGlobals "place_behind" = some (some (.ref g31))) (l31 : K.lookup g31 = some ⟨oc31, od31, .func (PySem.W.fnOf "place_behind" "place_behind" (defArgs (top 25)) (defBody (top 25)) (defScope (top 25)) .none kV31 dc31 pm31 an31 cd31 ct31), sl31⟩) (c31 : PySem.W.codeIn K cd31 "place_behind" = true) (k31 : PySem.W.keepIn K (.ref g31) = true)
    (a32 : PySem.W.nsIn K mainGlobals "_law_lists" = some (some (.ref g32))) (l32 : K.lookup g32 = some ⟨oc32, od32, .func (PySem.W.fnOf "_law_lists" "_law_lists" (defArgs (top 32)) (defBody (top 32)) (defScope (top 32)) .none kV32 dc32 pm32 an32 cd32 ct32), sl32⟩) (c32 : PySem.W.codeIn K cd32 "_law_lists" = true) (k32 : PySem.W.keepIn K (.ref g32) = true)
    (a33 : PySem.W.nsIn K mainGlobals "touched_by" = some (some (.ref g33))) (l33 : K.lookup g33 = some ⟨oc33, od33, .func (PySem.W.fnOf "touched_by" "touched_by" (defArgs (top 20)) (defBody (top 20)) (defScope (top 20)) .none kV33 dc33 pm33 an33 cd33 ct33), sl33⟩) (c33 : PySem.W.codeIn K cd33 "touched_by" = true) (k33 : PySem.W.keepIn K (.ref g33) = true)
    (a34 : PySem.W.nsIn K mainGlobals "asked_again" = some (some (.ref g34))) (l34 : K.lookup g34 = some ⟨oc34, od34, .func (PySem.W.fnOf "asked_again" "asked_again" (defArgs (top 21)) (defBody (top 21)) (defScope (top 21)) .none kV34 dc34 pm34 an34 cd34 ct34), sl34⟩) (c34 : PySem.W.codeIn K cd34 "asked_again" = true) (k34 : PySem.W.keepIn K (.ref g34) = true)
    (a35 : PySem.W.nsIn K mainGlobals "_law_right" = some (some (.ref g35))) (l35 : K.lookup g35 = some ⟨oc35, od35, .func (PySem.W.fnOf "_law_right" "_law_right" (defArgs (top 46)) (defBody (top 46)) (defScope (top 46)) .none kV35 dc35 pm35 an35 cd35 ct35), sl35⟩) (c35 : PySem.W.codeIn K cd35 "_law_right" = true) (k35 : PySem.W.keepIn K (.ref g35) = true)
    (a36 : PySem.W.nsIn K mainGlobals "_law_front_right" = some (some (.ref g36))) (l36 : K.lookup g36 = some ⟨oc36, od36, .func (PySem.W.fnOf "_law_front_right" "_law_front_right" (defArgs (top 37)) (defBody (top 37)) (defScope (top 37)) .none kV36 dc36 pm36 an36 cd36 ct36), sl36⟩) (c36 : PySem.W.codeIn K cd36 "_law_front_right" = true) (k36 : PySem.W.keepIn K (.ref g36) = true)
    (a37 : PySem.W.nsIn K mainGlobals "_law_box" = some (some (.ref g37))) (l37 : K.lookup g37 = some ⟨oc37, od37, .func (PySem.W.fnOf "_law_box" "_law_box" (defArgs (top 27)) (defBody (top 27)) (defScope (top 27)) .none kV37 dc37 pm37 an37 cd37 ct37), sl37⟩) (c37 : PySem.W.codeIn K cd37 "_law_box" = true) (k37 : PySem.W.keepIn K (.ref g37) = true)
    (a38 : PySem.W.nsIn K mainGlobals "_law_cells" = some (some (.ref g38))) (l38 : K.lookup g38 = some ⟨oc38, od38, .func (PySem.W.fnOf "_law_cells" "_law_cells" (defArgs (top 29)) (defBody (top 29)) (defScope (top 29)) .none kV38 dc38 pm38 an38 cd38 ct38), sl38⟩) (c38 : PySem.W.codeIn K cd38 "_law_cells" = true) (k38 : PySem.W.keepIn K (.ref g38) = true)
    (a39 : PySem.W.nsIn K mainGlobals "law" = some (some (.ref g39))) (l39 : K.lookup g39 = some ⟨oc39, od39, .func (PySem.W.fnOf "law" "law" (defArgs (top 47)) (defBody (top 47)) (defScope (top 47)) .none kV39 dc39 pm39 an39 cd39 ct39), sl39⟩) (c39 : PySem.W.codeIn K cd39 "law" = true) (k39 : PySem.W.keepIn K (.ref g39) = true)
    (z_abs : PySem.W.nsIn K mainGlobals "abs" = some none)
    (z_all : PySem.W.nsIn K mainGlobals "all" = some none)
    (z_any : PySem.W.nsIn K mainGlobals "any" = some none)
    (z_bool : PySem.W.nsIn K mainGlobals "bool" = some none)
    (z_enumerate : PySem.W.nsIn K mainGlobals "enumerate" = some none)
    (z_int : PySem.W.nsIn K mainGlobals "int" = some none)
    (z_isinstance : PySem.W.nsIn K mainGlobals "isinstance" = some none)
    (z_len : PySem.W.nsIn K mainGlobals "len" = some none)
    (z_list : PySem.W.nsIn K mainGlobals "list" = some none)
    (z_max : PySem.W.nsIn K mainGlobals "max" = some none)
    (z_min : PySem.W.nsIn K mainGlobals "min" = some none)
    (z_range : PySem.W.nsIn K mainGlobals "range" = some none)
    (z_sorted : PySem.W.nsIn K mainGlobals "sorted" = some none)
    (z_str : PySem.W.nsIn K mainGlobals "str" = some none)
    (z_tuple : PySem.W.nsIn K mainGlobals "tuple" = some none)
    (z_zip : PySem.W.nsIn K mainGlobals "zip" = some none) :
    ∃ fd : FuncData, (∀ (s : Shared) (v : Value), BindsTo s fd ⟨[v], []⟩ [("script", v)]) ∧ ∀ base : Heap, K.In base → base.Ns mainGlobals mg → FnOk l.prog w K mg base (L2.CX l.prog w) 20 fa fd ["script"] (spL K f_law) := by
  have e := hfa.symm.trans (PySem.W.mg_of X G a39)
  cases e
  have T : Txt K mg := { d__law_found := ⟨_, _, fun_mk (st := top 36) l0 c0 k0, PySem.W.mg_of X G a0, (fun_mk (st := top 36) l0 c0 k0).binds (ps := ["word_so", "place_so", "side", "letters_so"]) fun _ _ _ _ _ _ us hl => match us, hl with | [_, _, _, _], _ => rfl⟩, d__law_run := ⟨_, _, fun_mk (st := top 41) l1 c1 k1, PySem.W.mg_of X G a1, (fun_mk (st := top 41) l1 c1 k1).binds (ps := ["tree_so", "word_so"]) fun _ _ _ _ _ _ us hl => match us, hl with | [_, _], _ => rfl⟩, d__law_take := ⟨_, _, fun_mk (st := top 28) l2 c2 k2, PySem.W.mg_of X G a2, (fun_mk (st := top 28) l2 c2 k2).binds (ps := ["urn", "low_so"]) fun _ _ _ _ _ _ us hl => match us, hl with | [_, _], _ => rfl⟩, d__law_pick := ⟨_, _, fun_mk (st := top 31) l3 c3 k3, PySem.W.mg_of X G a3, (fun_mk (st := top 31) l3 c3 k3).binds (ps := ["urn", "some", "count"]) fun _ _ _ _ _ _ us hl => match us, hl with | [_, _, _], _ => rfl⟩, d__law_of := ⟨_, _, fun_mk (st := top 30) l4 c4 k4, PySem.W.mg_of X G a4, (fun_mk (st := top 30) l4 c4 k4).binds (ps := ["urn", "some_so"]) fun _ _ _ _ _ _ us hl => match us, hl with | [_, _], _ => rfl⟩, d__law_letters_of := ⟨_, _, fun_mk (st := top 35) l5 c5 k5, PySem.W.mg_of X G a5, (fun_mk (st := top 35) l5 c5 k5).binds (ps := ["urn", "wide"]) fun _ _ _ _ _ _ us hl => match us, hl with | [_, _], _ => rfl⟩, d__law_ask := ⟨_, _, fun_mk (st := top 38) l6 c6 k6, PySem.W.mg_of X G a6, (fun_mk (st := top 38) l6 c6 k6).binds (ps := ["urn", "wide", "many_so", "then_so"]) fun _ _ _ _ _ _ us hl => match us, hl with | [_, _, _, _], _ => rfl⟩, d__law_order := ⟨_, _, fun_mk (st := top 39) l7 c7 k7, PySem.W.mg_of X G a7, (fun_mk (st := top 39) l7 c7 k7).binds (ps := ["urn", "many_so", "goes_so"]) fun _ _ _ _ _ _ us hl => match us, hl with | [_, _, _], _ => rfl⟩, d__law_tree := ⟨_, _, fun_mk (st := top 40) l8 c8 k8, PySem.W.mg_of X G a8, (fun_mk (st := top 40) l8 c8 k8).binds (ps := ["urn", "wide"]) fun _ _ _ _ _ _ us hl => match us, hl with | [_, _], _ => rfl⟩, d__law_text := ⟨_, _, fun_mk (st := top 34) l9 c9 k9, PySem.W.mg_of X G a9, (fun_mk (st := top 34) l9 c9 k9).binds (ps := ["urn", "wide", "most_so"]) fun _ _ _ _ _ _ us hl => match us, hl with | [_, _, _], _ => rfl⟩, d__law_same := ⟨_, _, fun_mk (st := top 33) l10 c10 k10, PySem.W.mg_of X G a10, (fun_mk (st := top 33) l10 c10 k10).binds (ps := ["near", "goal"]) fun _ _ _ _ _ _ us hl => match us, hl with | [_, _], _ => rfl⟩, d__law_changes := ⟨_, _, fun_mk (st := top 45) l11 c11 k11, PySem.W.mg_of X G a11, (fun_mk (st := top 45) l11 c11 k11).binds (ps := ["wide", "n"]) fun _ _ _ _ _ _ us hl => match us, hl with | [_, _], _ => rfl⟩, d__law_behind_change := ⟨_, _, fun_mk (st := top 42) l12 c12 k12, PySem.W.mg_of X G a12, (fun_mk (st := top 42) l12 c12 k12).binds (ps := ["word_so", "change"]) fun _ _ _ _ _ _ us hl => match us, hl with | [_, _], _ => rfl⟩, d_tuple_of := ⟨_, _, fun_mk (st := top 2) l13 c13 k13, PySem.W.mg_of X G a13, (fun_mk (st := top 2) l13 c13 k13).binds (ps := ["thing"]) fun _ _ _ _ _ _ us hl => match us, hl with | [_], _ => rfl⟩, d_is_number := ⟨_, _, fun_mk (st := top 1) l14 c14 k14, PySem.W.mg_of X G a14, (fun_mk (st := top 1) l14 c14 k14).binds (ps := ["thing"]) fun _ _ _ _ _ _ us hl => match us, hl with | [_], _ => rfl⟩, d_sure_place := ⟨_, _, fun_mk (st := top 6) l15 c15 k15, PySem.W.mg_of X G a15, (fun_mk (st := top 6) l15 c15 k15).binds (ps := ["text", "place"]) fun _ _ _ _ _ _ us hl => match us, hl with | [_, _], _ => rfl⟩, d_next_place := ⟨_, _, fun_mk (st := top 7) l16 c16 k16, PySem.W.mg_of X G a16, (fun_mk (st := top 7) l16 c16 k16).binds (ps := ["text", "place", "letters"]) fun _ _ _ _ _ _ us hl => match us, hl with | [_, _, _], _ => rfl⟩, d_last_place := ⟨_, _, fun_mk (st := top 8) l17 c17 k17, PySem.W.mg_of X G a17, (fun_mk (st := top 8) l17 c17 k17).binds (ps := ["text", "place", "letters"]) fun _ _ _ _ _ _ us hl => match us, hl with | [_, _, _], _ => rfl⟩, d_found := ⟨_, _, fun_mk (st := top 11) l18 c18 k18, PySem.W.mg_of X G a18, (fun_mk (st := top 11) l18 c18 k18).binds (ps := ["text", "place", "side", "letters"]) fun _ _ _ _ _ _ us hl => match us, hl with | [_, _, _, _], _ => rfl⟩, d_gone := ⟨_, _, fun_mk (st := top 13) l19 c19 k19, PySem.W.mg_of X G a19, (fun_mk (st := top 13) l19 c19 k19).binds (ps := ["tree", "text"]) fun _ _ _ _ _ _ us hl => match us, hl with | [_, _], _ => rfl⟩, d_run := ⟨_, _, fun_mk (st := top 14) l20 c20 k20, PySem.W.mg_of X G a20, (fun_mk (st := top 14) l20 c20 k20).binds (ps := ["tree", "text"]) fun _ _ _ _ _ _ us hl => match us, hl with | [_, _], _ => rfl⟩, d_way_of := ⟨_, _, fun_mk (st := top 16) l21 c21 k21, PySem.W.mg_of X G a21, (fun_mk (st := top 16) l21 c21 k21).binds (ps := ["tree", "text"]) fun _ _ _ _ _ _ us hl => match us, hl with | [_, _], _ => rfl⟩, d_gone_over := ⟨_, _, fun_mk (st := top 18) l22 c22 k22, PySem.W.mg_of X G a22, (fun_mk (st := top 18) l22 c22 k22).binds (ps := ["tree", "text"]) fun _ _ _ _ _ _ us hl => match us, hl with | [_, _], _ => rfl⟩, d__law_moved := ⟨_, _, fun_mk (st := top 43) l23 c23 k23, PySem.W.mg_of X G a23, (fun_mk (st := top 43) l23 c23 k23).binds (ps := ["change", "place_so"]) fun _ _ _ _ _ _ us hl => match us, hl with | [_, _], _ => rfl⟩, d__law_touched := ⟨_, _, fun_mk (st := top 44) l24 c24 k24, PySem.W.mg_of X G a24, (fun_mk (st := top 44) l24 c24 k24).binds (ps := ["row", "word_so", "change"]) fun _ _ _ _ _ _ us hl => match us, hl with | [_, _, _], _ => rfl⟩, d_changes_of := ⟨_, _, fun_mk (st := top 22) l25 c25 k25, PySem.W.mg_of X G a25, (fun_mk (st := top 22) l25 c25 k25).binds (ps := ["wide", "text"]) fun _ _ _ _ _ _ us hl => match us, hl with | [_, _], _ => rfl⟩, d_is_touched := ⟨_, _, fun_mk (st := top 19) l26 c26 k26, PySem.W.mg_of X G a26, (fun_mk (st := top 19) l26 c26 k26).binds (ps := ["stretch", "change"]) fun _ _ _ _ _ _ us hl => match us, hl with | [_, _], _ => rfl⟩, d_can_turn := ⟨_, _, fun_mk (st := top 23) l27 c27 k27, PySem.W.mg_of X G a27, (fun_mk (st := top 23) l27 c27 k27).binds (ps := ["wide", "tree", "text"]) fun _ _ _ _ _ _ us hl => match us, hl with | [_, _, _], _ => rfl⟩, d_answer := ⟨_, _, fun_mk (st := top 15) l28 c28 k28, PySem.W.mg_of X G a28, (fun_mk (st := top 15) l28 c28 k28).binds (ps := ["tree", "text"]) fun _ _ _ _ _ _ us hl => match us, hl with | [_, _], _ => rfl⟩, d_changed := ⟨_, _, fun_mk (st := top 9) l29 c29 k29, PySem.W.mg_of X G a29, (fun_mk (st := top 9) l29 c29 k29).binds (ps := ["text", "change"]) fun _ _ _ _ _ _ us hl => match us, hl with | [_, _], _ => rfl⟩, d_turning := ⟨_, _, fun_mk (st := top 24) l30 c30 k30, PySem.W.mg_of X G a30, (fun_mk (st := top 24) l30 c30 k30).binds (ps := ["wide", "tree", "text"]) fun _ _ _ _ _ _ us hl => match us, hl with | [_, _, _], _ => rfl⟩, d_place_behind := ⟨_, _, fun_mk (st := top 25) l31 c31 k31, PySem.W.mg_of X G a31, (fun_mk (st := top 25) l31 c31 k31).binds (ps := ["text", "change", "place"]) fun _ _ _ _ _ _ us hl => match us, hl with | [_, _, _], _ => rfl⟩, d__law_lists := ⟨_, _, fun_mk (st := top 32) l32 c32 k32, PySem.W.mg_of X G a32, (fun_mk (st := top 32) l32 c32 k32).binds (ps := ["matter"]) fun _ _ _ _ _ _ us hl => match us, hl with | [_], _ => rfl⟩, d_touched_by := ⟨_, _, fun_mk (st := top 20) l33 c33 k33, PySem.W.mg_of X G a33, (fun_mk (st := top 20) l33 c33 k33).binds (ps := ["tree", "text", "change"]) fun _ _ _ _ _ _ us hl => match us, hl with | [_, _, _], _ => rfl⟩, d_asked_again := ⟨_, _, fun_mk (st := top 21) l34 c34 k34, PySem.W.mg_of X G a34, (fun_mk (st := top 21) l34 c34 k34).binds (ps := ["tree", "text", "change"]) fun _ _ _ _ _ _ us hl => match us, hl with | [_, _, _], _ => rfl⟩, d__law_right := ⟨_, _, fun_mk (st := top 46) l35 c35 k35, PySem.W.mg_of X G a35, (fun_mk (st := top 46) l35 c35 k35).binds (ps := ["urn"]) fun _ _ _ _ _ _ us hl => match us, hl with | [_], _ => rfl⟩, d__law_front_right := ⟨_, _, fun_mk (st := top 37) l36 c36 k36, PySem.W.mg_of X G a36, (fun_mk (st := top 37) l36 c36 k36).binds (ps := []) fun _ _ _ _ _ _ us hl => match us, hl with | [], _ => rfl⟩, d__law_box := ⟨_, _, fun_mk (st := top 27) l37 c37 k37, PySem.W.mg_of X G a37, (fun_mk (st := top 27) l37 c37 k37).binds (ps := ["script", "k"]) fun _ _ _ _ _ _ us hl => match us, hl with | [_, _], _ => rfl⟩, d__law_cells := ⟨_, _, fun_mk (st := top 29) l38 c38 k38, PySem.W.mg_of X G a38, (fun_mk (st := top 29) l38 c38 k38).binds (ps := ["script", "roof_so"]) fun _ _ _ _ _ _ us hl => match us, hl with | [_, _], _ => rfl⟩, b_abs := PySem.W.mg_none_of X G z_abs, b_all := PySem.W.mg_none_of X G z_all, b_any := PySem.W.mg_none_of X G z_any, b_bool := PySem.W.mg_none_of X G z_bool, b_enumerate := PySem.W.mg_none_of X G z_enumerate, b_int := PySem.W.mg_none_of X G z_int, b_isinstance := PySem.W.mg_none_of X G z_isinstance, b_len := PySem.W.mg_none_of X G z_len, b_list := PySem.W.mg_none_of X G z_list, b_max := PySem.W.mg_none_of X G z_max, b_min := PySem.W.mg_none_of X G z_min, b_range := PySem.W.mg_none_of X G z_range, b_sorted := PySem.W.mg_none_of X G z_sorted, b_str := PySem.W.mg_none_of X G z_str, b_tuple := PySem.W.mg_none_of X G z_tuple, b_zip := PySem.W.mg_none_of X G z_zip }
  exact ⟨PySem.W.fnOf "law" "law" (defArgs (top 47)) (defBody (top 47)) (defScope (top 47)) .none kV39 dc39 pm39 an39 cd39 ct39, fun s v => .of_eq rfl, fun base _ _ =>
    law_at (fun_mk (st := top 47) l39 c39 k39) sc_law fun f cdv A outer s H E hr => (b_cons (st_if (t_not (t_val (s_call0 (fn__law_front_right T) (hr.mono (by decide)) (takes_of rfl rfl rfl rfl))))
    (b_one (st_ret s_bl))
    b_nil)
  (b_one (st_ret (s_callC (fn__law_right T) (hr.mono (by decide)) (takes_of rfl rfl rfl rfl) (s_call (fn__law_box T) (hr.mono (by decide)) (takes_of rfl rfl rfl rfl) (a_cons (s_call (fn__law_cells T) (hr.mono (by decide)) (takes_of rfl rfl rfl rfl) (a_cons (s_var 0) (a_cons s_int a_nil)) (hlen := (len_cons (len_cons len_nil)))) (a_cons s_int a_nil)) (hlen := (len_cons (len_cons len_nil))))))))⟩
theorem walk {l : PySem.W.OpenLaw} {qq : Program} {loose : List Str} {XP : (Str → Option Value) → Heap → Prop} {YP : World → Heap → Prop} {d : DefRec} {K : Params → PySem.W.Frag} (hpure : ∀ ns : List Int, ns.length ≤ 63 → ∃ ph, f_law [.d (.fz ns)] [] = .ok (.d (.bl true)) ph) (hn : l.most = some 63) (hdf : d.params.defaults = [])
    (hY : ∀ (w : World) (h : Heap), YP w h → (K w.params).In h)
    (F : ∀ (w : World) (mg : Str → Option Value) (fa : Addr) (h : Heap), (K w.params).In h → h.Ns mainGlobals mg → mg d.name = some (.ref fa) →
      ∃ fd : FuncData, (∀ (s : Shared) (u : Value), BindsTo s fd ⟨[u], []⟩ [("script", u)]) ∧ ∀ base : Heap, (K w.params).In base → base.Ns mainGlobals mg → FnOk l.prog w (K w.params) mg base (L2.CX l.prog w) 20 fa fd ["script"] (spL (K w.params) f_law)) :
    PySem.W.WalkO qq loose XP YP l.row.toRowW d [] (fun f vs => PySem.call f vs) :=
  L2.walk_of (n := 63) (k := 20) (x := "script") (CX := fun w => L2.CX l.prog w) (sp := fun w => spL (K w.params) f_law) hn (by decide) hdf ⟨rfl, by decide, by decide⟩ hY F (fun _ _ a ns hl _ hS => spL_of hpure hl hS) cx_false
end
end Pyp

open PySem PySem.W PyProof.Rows in
set_option maxRecDepth 100000 in
set_option maxHeartbeats 0 in
theorem PySem.Challenge.cw_turnedasks_k26_whole_changes_by_plain_ru_holds : PySem.Challenge.rw_turnedasks_k26_whole_changes_by_plain_ru.Holds := by
  w_on; o_law; k_head; (case hw => w_witness2)
  k_fill
  refine Pyp.walk (l := PySem.Challenge.rw_turnedasks_k26_whole_changes_by_plain_ru) Pyp.pure_law rfl rfl (fun w h Y => PySem.W.kIn_of Y) ?F
  case F =>
    intro w mg fa h KX G hmg
    refine' Pyp.all_mk KX G hmg ?a0 ?l0 ?c0 ?k0 ?a1 ?l1 ?c1 ?k1 ?a2 ?l2 ?c2 ?k2 ?a3 ?l3 ?c3 ?k3 ?a4 ?l4 ?c4 ?k4 ?a5 ?l5 ?c5 ?k5 ?a6 ?l6 ?c6 ?k6 ?a7 ?l7 ?c7 ?k7 ?a8 ?l8 ?c8 ?k8 ?a9 ?l9 ?c9 ?k9 ?a10 ?l10 ?c10 ?k10 ?a11 ?l11 ?c11 ?k11 ?a12 ?l12 ?c12 ?k12 ?a13 ?l13 ?c13 ?k13 ?a14 ?l14 ?c14 ?k14 ?a15 ?l15 ?c15 ?k15 ?a16 ?l16 ?c16 ?k16 ?a17 ?l17 ?c17 ?k17 ?a18 ?l18 ?c18 ?k18 ?a19 ?l19 ?c19 ?k19 ?a20 ?l20 ?c20 ?k20 ?a21 ?l21 ?c21 ?k21 ?a22 ?l22 ?c22 ?k22 ?a23 ?l23 ?c23 ?k23 ?a24 ?l24 ?c24 ?k24 ?a25 ?l25 ?c25 ?k25 ?a26 ?l26 ?c26 ?k26 ?a27 ?l27 ?c27 ?k27 ?a28 ?l28 ?c28 ?k28 ?a29 ?l29 ?c29 ?k29 ?a30 ?l30 ?c30 ?k30 ?a31 ?l31 ?c31 ?k31 ?a32 ?l32 ?c32 ?k32 ?a33 ?l33 ?c33 ?k33 ?a34 ?l34 ?c34 ?k34 ?a35 ?l35 ?c35 ?k35 ?a36 ?l36 ?c36 ?k36 ?a37 ?l37 ?c37 ?k37 ?a38 ?l38 ?c38 ?k38 ?a39 ?l39 ?c39 ?k39 ?z_abs ?z_all ?z_any ?z_bool ?z_enumerate ?z_int ?z_isinstance ?z_len ?z_list ?z_max ?z_min ?z_range ?z_sorted ?z_str ?z_tuple ?z_zip
    (case a0 => k_is)
    (case l0 => k_is)
    (case c0 => k_is)
    (case k0 => k_is)
    (case a1 => k_is)
    (case l1 => k_is)
    (case c1 => k_is)
    (case k1 => k_is)
    (case a2 => k_is)
    (case l2 => k_is)
    (case c2 => k_is)
    (case k2 => k_is)
    (case a3 => k_is)
    (case l3 => k_is)
    (case c3 => k_is)
    (case k3 => k_is)
    (case a4 => k_is)
    (case l4 => k_is)
    (case c4 => k_is)
    (case k4 => k_is)
    (case a5 => k_is)
    (case l5 => k_is)
    (case c5 => k_is)
    (case k5 => k_is)
    (case a6 => k_is)
    (case l6 => k_is)
    (case c6 => k_is)
    (case k6 => k_is)
    (case a7 => k_is)
    (case l7 => k_is)
    (case c7 => k_is)
    (case k7 => k_is)
    (case a8 => k_is)
    (case l8 => k_is)
    (case c8 => k_is)
    (case k8 => k_is)
    (case a9 => k_is)
    (case l9 => k_is)
    (case c9 => k_is)
    (case k9 => k_is)
    (case a10 => k_is)
    (case l10 => k_is)
    (case c10 => k_is)
    (case k10 => k_is)
    (case a11 => k_is)
    (case l11 => k_is)
    (case c11 => k_is)
    (case k11 => k_is)
    (case a12 => k_is)
    (case l12 => k_is)
    (case c12 => k_is)
    (case k12 => k_is)
    (case a13 => k_is)
    (case l13 => k_is)
    (case c13 => k_is)
    (case k13 => k_is)
    (case a14 => k_is)
    (case l14 => k_is)
    (case c14 => k_is)
    (case k14 => k_is)
    (case a15 => k_is)
    (case l15 => k_is)
    (case c15 => k_is)
    (case k15 => k_is)
    (case a16 => k_is)
    (case l16 => k_is)
    (case c16 => k_is)
    (case k16 => k_is)
    (case a17 => k_is)
    (case l17 => k_is)
    (case c17 => k_is)
    (case k17 => k_is)
    (case a18 => k_is)
    (case l18 => k_is)
    (case c18 => k_is)
    (case k18 => k_is)
    (case a19 => k_is)
    (case l19 => k_is)
    (case c19 => k_is)
    (case k19 => k_is)
    (case a20 => k_is)
    (case l20 => k_is)
    (case c20 => k_is)
    (case k20 => k_is)
    (case a21 => k_is)
    (case l21 => k_is)
    (case c21 => k_is)
    (case k21 => k_is)
    (case a22 => k_is)
    (case l22 => k_is)
    (case c22 => k_is)
    (case k22 => k_is)
    (case a23 => k_is)
    (case l23 => k_is)
    (case c23 => k_is)
    (case k23 => k_is)
    (case a24 => k_is)
    (case l24 => k_is)
    (case c24 => k_is)
    (case k24 => k_is)
    (case a25 => k_is)
    (case l25 => k_is)
    (case c25 => k_is)
    (case k25 => k_is)
    (case a26 => k_is)
    (case l26 => k_is)
    (case c26 => k_is)
    (case k26 => k_is)
    (case a27 => k_is)
    (case l27 => k_is)
    (case c27 => k_is)
    (case k27 => k_is)
    (case a28 => k_is)
    (case l28 => k_is)
    (case c28 => k_is)
    (case k28 => k_is)
    (case a29 => k_is)
    (case l29 => k_is)
    (case c29 => k_is)
    (case k29 => k_is)
    (case a30 => k_is)
    (case l30 => k_is)
    (case c30 => k_is)
    (case k30 => k_is)
    (case a31 => k_is)
    (case l31 => k_is)
    (case c31 => k_is)
    (case k31 => k_is)
    (case a32 => k_is)
    (case l32 => k_is)
    (case c32 => k_is)
    (case k32 => k_is)
    (case a33 => k_is)
    (case l33 => k_is)
    (case c33 => k_is)
    (case k33 => k_is)
    (case a34 => k_is)
    (case l34 => k_is)
    (case c34 => k_is)
    (case k34 => k_is)
    (case a35 => k_is)
    (case l35 => k_is)
    (case c35 => k_is)
    (case k35 => k_is)
    (case a36 => k_is)
    (case l36 => k_is)
    (case c36 => k_is)
    (case k36 => k_is)
    (case a37 => k_is)
    (case l37 => k_is)
    (case c37 => k_is)
    (case k37 => k_is)
    (case a38 => k_is)
    (case l38 => k_is)
    (case c38 => k_is)
    (case k38 => k_is)
    (case a39 => k_is)
    (case l39 => k_is)
    (case c39 => k_is)
    (case k39 => k_is)
    (case z_abs => k_is)
    (case z_all => k_is)
    (case z_any => k_is)
    (case z_bool => k_is)
    (case z_enumerate => k_is)
    (case z_int => k_is)
    (case z_isinstance => k_is)
    (case z_len => k_is)
    (case z_list => k_is)
    (case z_max => k_is)
    (case z_min => k_is)
    (case z_range => k_is)
    (case z_sorted => k_is)
    (case z_str => k_is)
    (case z_tuple => k_is)
    (case z_zip => k_is)
