import PyProof.Rows.All
import Wide.All
import OpenK.AllK
import Wide.FinOn
import HandS.ForMost
import HandS.IsInst
import HandS.Deep
import HandS.TupAny
import HandS.TupMul
import HandS.Style
import HandS.SortInts
import HandS.Strs
import HandS.SetFor
import HandS.Zip
import HandS.Conv
import KE.KSortedM
import HandS.NoneIn
import HandS.Sort
import HandS.Defaults
import HandS.Words
import HandS.Head0
import HandS.Head1
import HandS.Head2
import HandS.HeadEnd
import HandS.HeadHook1
import HandS.HeadHook2
import PySem.Challenge.RW_lentfiles_k02_whole_histories_judged
set_option Elab.async false
set_option linter.all false
set_option maxRecDepth 100000
set_option maxHeartbeats 4000000
/-! Pure values, results, the store. -/
namespace Ev
open PySem L2

inductive DK where
  | K | T | N
  deriving DecidableEq, Repr

/-- a value: None, a truth, a number, a text, a tuple, an object of the store -/
inductive D where
  | non
  | bl (b : Bool)
  | int (i : Int)
  | str (s : Str)
  | tup (xs : List D)
  | ob (h : Nat)
  deriving Repr, Inhabited

mutual
def D.beq : D → D → Bool
  | .non, .non => true
  | .bl a, .bl b => a == b
  | .int a, .int b => decide (a = b)
  | .str a, .str b => decide (a = b)
  | .tup a, .tup b => D.beqs a b
  | .ob a, .ob b => decide (a = b)
  | _, _ => false
def D.beqs : List D → List D → Bool
  | [], [] => true
  | x :: xs, y :: ys => D.beq x y && D.beqs xs ys
  | _, _ => false
end
mutual
theorem D.beq_refl : ∀ a : D, D.beq a a = true
  | .non => rfl
  | .bl b => by cases b <;> rfl
  | .int i => by simp [D.beq]
  | .str s => by simp [D.beq]
  | .tup xs => by simp only [D.beq]; exact D.beqs_refl xs
  | .ob h => by simp [D.beq]
theorem D.beqs_refl : ∀ a : List D, D.beqs a a = true
  | [] => rfl
  | x :: xs => by simp only [D.beqs, D.beq_refl x, D.beqs_refl xs, Bool.and_self]
end
mutual
theorem D.eq_of_beq : ∀ a b : D, D.beq a b = true → a = b
  | .non, b, h => by cases b <;> simp [D.beq] at h ⊢
  | .bl x, b, h => by cases b <;> simp [D.beq] at h ⊢; exact h
  | .int x, b, h => by cases b <;> simp [D.beq] at h ⊢; exact h
  | .str x, b, h => by cases b <;> simp [D.beq] at h ⊢; exact h
  | .tup xs, b, h => by
    cases b <;> simp [D.beq] at h ⊢
    exact D.eq_of_beqs xs _ h
  | .ob x, b, h => by cases b <;> simp [D.beq] at h ⊢; exact h
theorem D.eq_of_beqs : ∀ a b : List D, D.beqs a b = true → a = b
  | [], b, h => by cases b <;> simp [D.beqs] at h ⊢
  | x :: xs, b, h => by
    cases b with
    | nil => simp [D.beqs] at h
    | cons y ys =>
      simp only [D.beqs, Bool.and_eq_true] at h
      rw [D.eq_of_beq x y h.1, D.eq_of_beqs xs ys h.2]
end
instance : DecidableEq D := fun a b => if h : D.beq a b = true then isTrue (D.eq_of_beq a b h) else isFalse fun e => h (by rw [e]; exact D.beq_refl b)

/-- what an expression gives: a value; a list just made; a list that is lent; one that is read alone; a written tuple; a dict just made, lent; a pair of such -/
inductive R where
  | v (d : D)
  | l (xs : List D)
  | b (xs : List D)
  | f (xs : List D)
  | c (xs : List D)
  | d (k : DK) (kvs : List (D × D))
  | bd (k : DK) (kvs : List (D × D))
  | pr (a b : R)
  deriving Repr, Inhabited

inductive Ob where
  | lst (xs : List D)
  | dic (k : DK) (kvs : List (D × D))
  | lck (kvs : List (D × D))
  | ins (c : Nat) (fs : List (Nat × D))
  deriving Repr, Inhabited, DecidableEq
abbrev Store := List Ob

/-- a slot: unset, a value, a list or dict of its own, a list that is lent -/
inductive Sl where
  | no
  | v (d : D)
  | l (xs : List D)
  | b (xs : List D)
  | f (xs : List D)
  | d (k : DK) (kvs : List (D × D))
  deriving Repr, Inhabited, DecidableEq
abbrev Env := List Sl
abbrev E := Env → Store → Option (R × Store)
abbrev Ru := List R → Store → Option (R × Store)

/-! ### what a value stands for -/
mutual
inductive Rep (ι : Nat → Addr) (n : Nat) (H : Hp) : D → V → Prop
  | non : Rep ι n H .non .non
  | bl (b : Bool) : Rep ι n H (.bl b) (.bl b)
  | int (i : Int) : Rep ι n H (.int i) (.int i)
  | str (s : Str) : Rep ι n H (.str s) (.str s)
  | tup {xs : List D} {a : Addr} {vs : List V} : H a = some (.tup vs) → Reps ι n H xs vs → Rep ι n H (.tup xs) (.ref a)
  | ob {h : Nat} : h < n → Rep ι n H (.ob h) (.ref (ι h))
inductive Reps (ι : Nat → Addr) (n : Nat) (H : Hp) : List D → List V → Prop
  | nil : Reps ι n H [] []
  | cons {d : D} {ds : List D} {v : V} {vs : List V} : Rep ι n H d v → Reps ι n H ds vs → Reps ι n H (d :: ds) (v :: vs)
end
section
variable {ι ι' : Nat → Addr} {n n' : Nat} {H H' : Hp}
mutual
theorem Rep.mono (hn : n ≤ n') (hi : ∀ h, h < n → ι' h = ι h) (ht : ∀ a vs, H a = some (.tup vs) → H' a = some (.tup vs)) : ∀ (d : D) (v : V), Rep ι n H d v → Rep ι' n' H' d v
  | .non, _, h => by cases h; exact .non
  | .bl b, _, h => by cases h; exact .bl b
  | .int i, _, h => by cases h; exact .int i
  | .str s, _, h => by cases h; exact .str s
  | .tup xs, _, h => by
    cases h with
    | tup hs hr => exact .tup (ht _ _ hs) (Reps.mono hn hi ht xs _ hr)
  | .ob k, _, h => by
    cases h with
    | ob hk =>
      rw [← hi k hk]
      exact .ob (Nat.lt_of_lt_of_le hk hn)
theorem Reps.mono (hn : n ≤ n') (hi : ∀ h, h < n → ι' h = ι h) (ht : ∀ a vs, H a = some (.tup vs) → H' a = some (.tup vs)) : ∀ (ds : List D) (vs : List V), Reps ι n H ds vs → Reps ι' n' H' ds vs
  | [], _, h => by cases h; exact .nil
  | d :: ds, _, h => by
    cases h with
    | cons h1 h2 => exact .cons (Rep.mono hn hi ht d _ h1) (Reps.mono hn hi ht ds _ h2)
end
theorem Reps.length : ∀ {ds : List D} {vs : List V}, Reps ι n H ds vs → ds.length = vs.length
  | [], _, h => by cases h; rfl
  | _ :: ds, _, h => by
    cases h with
    | cons _ h2 => simp [Reps.length h2]
theorem Reps.get : ∀ {ds : List D} {vs : List V} {i : Nat} {d : D}, Reps ι n H ds vs → ds[i]? = some d → ∃ v, vs[i]? = some v ∧ Rep ι n H d v
  | [], _, _, _, _, e => by simp at e
  | d :: ds, _, 0, _, h, e => by
    cases h with
    | cons h1 h2 => simp at e; subst e; exact ⟨_, rfl, h1⟩
  | d :: ds, _, i + 1, x, h, e => by
    cases h with
    | cons h1 h2 =>
      obtain ⟨v, e1, r⟩ := Reps.get (i := i) (d := x) h2 (by simpa using e)
      exact ⟨v, by simpa using e1, r⟩
theorem Reps.append : ∀ {ds es : List D} {vs us : List V}, Reps ι n H ds vs → Reps ι n H es us → Reps ι n H (ds ++ es) (vs ++ us)
  | [], _, _, _, h, h' => by cases h; exact h'
  | _ :: ds, _, _, _, h, h' => by
    cases h with
    | cons h1 h2 => exact .cons h1 (Reps.append h2 h')
theorem Reps.take : ∀ {ds : List D} {vs : List V} (k : Nat), Reps ι n H ds vs → Reps ι n H (ds.take k) (vs.take k)
  | _, _, 0, _ => by simp; exact .nil
  | [], _, k + 1, h => by cases h; simp; exact .nil
  | _ :: ds, _, k + 1, h => by
    cases h with
    | cons h1 h2 => simp; exact .cons h1 (Reps.take k h2)
theorem Reps.drop : ∀ {ds : List D} {vs : List V} (k : Nat), Reps ι n H ds vs → Reps ι n H (ds.drop k) (vs.drop k)
  | _, _, 0, h => by simpa using h
  | [], _, k + 1, h => by cases h; simp; exact .nil
  | _ :: ds, _, k + 1, h => by
    cases h with
    | cons h1 h2 => simp; exact Reps.drop k h2
theorem Reps.set : ∀ {ds : List D} {vs : List V} (k : Nat) {d : D} {v : V}, Reps ι n H ds vs → Rep ι n H d v → Reps ι n H (ds.set k d) (vs.set k v)
  | [], _, _, _, _, h, _ => by cases h; simp; exact .nil
  | _ :: ds, _, 0, _, _, h, r => by
    cases h with
    | cons h1 h2 => exact .cons r h2
  | _ :: ds, _, k + 1, _, _, h, r => by
    cases h with
    | cons h1 h2 => exact .cons h1 (Reps.set k h2 r)
theorem Reps.eraseIdx : ∀ {ds : List D} {vs : List V} (k : Nat), Reps ι n H ds vs → Reps ι n H (ds.eraseIdx k) (vs.eraseIdx k)
  | [], _, _, h => by cases h; simp; exact .nil
  | _ :: ds, _, 0, h => by
    cases h with
    | cons h1 h2 => simpa using h2
  | _ :: ds, _, k + 1, h => by
    cases h with
    | cons h1 h2 => simp; exact .cons h1 (Reps.eraseIdx k h2)
end
end Ev

set_option Elab.async false
set_option linter.all false
set_option maxRecDepth 100000
set_option maxHeartbeats 4000000
/-! The store and the slots against the abstract heap. -/
namespace Ev
open PySem L2

/-- what is fixed: the program, its written part, the classes by number, the names of fields -/
structure Wd where
  P : Program
  w : World
  K : PySem.W.Frag
  CA : Nat → Addr
  FN : List Str

def keyD : Key → D
  | .inl i => .int i
  | .inr s => .str s
theorem keyD_inj {a b : Key} (e : keyD a = keyD b) : a = b := by
  cases a <;> cases b <;> simp [keyD] at e <;> simp [e]

inductive All2 {α β : Type} (F : α → β → Prop) : List α → List β → Prop
  | nil : All2 F [] []
  | cons {a : α} {b : β} {as : List α} {bs : List β} : F a b → All2 F as bs → All2 F (a :: as) (b :: bs)
theorem All2.mono {α β : Type} {F G : α → β → Prop} : ∀ {as : List α} {bs : List β}, All2 F as bs → (∀ a b, F a b → G a b) → All2 G as bs
  | _, _, .nil, _ => .nil
  | _, _, .cons h t, f => .cons (f _ _ h) (t.mono f)
theorem All2.length {α β : Type} {F : α → β → Prop} : ∀ {as : List α} {bs : List β}, All2 F as bs → as.length = bs.length
  | _, _, .nil => rfl
  | _, _, .cons _ t => by simp [t.length]
theorem All2.append {α β : Type} {F : α → β → Prop} : ∀ {as cs : List α} {bs ds : List β}, All2 F as bs → All2 F cs ds → All2 F (as ++ cs) (bs ++ ds)
  | _, _, _, _, .nil, h => h
  | _, _, _, _, .cons h t, q => .cons h (t.append q)
theorem All2.get {α β : Type} {F : α → β → Prop} : ∀ {as : List α} {bs : List β} {i : Nat} {a : α}, All2 F as bs → as[i]? = some a → ∃ b, bs[i]? = some b ∧ F a b
  | _, _, _, _, .nil, e => by simp at e
  | _, _, 0, _, .cons h t, e => by simp at e; subst e; exact ⟨_, rfl, h⟩
  | _, _, i + 1, _, .cons h t, e => by
    obtain ⟨b, e1, q⟩ := All2.get (i := i) t (by simpa using e)
    exact ⟨b, by simpa using e1, q⟩

/-- a key of kind N: a tuple of tuples of numbers, tracked -/
def NestAt (H : Hp) (kss : List (List Int)) (a : Addr) : Prop :=
  ∃ as : List Addr, H a = some (.tup (as.map V.ref)) ∧ All2 (fun is b => H b = some (.tup (is.map V.int))) kss as
def nestD (kss : List (List Int)) : D := .tup (kss.map fun is => .tup (is.map D.int))

/-- the hash of such a key -/
def nestHash (kss : List (List Int)) : Int := reduceHash (Builtin.Tuple.tupleHashOf (kss.map fun is => reduceHash (Builtin.Tuple.tupleHashOf (is.map hashInt))))
/-- a dict of kind N, by its object alone -/
def dictN (a : Addr) (xs : List (List (List Int) × Addr)) : Heap → Prop := fun h =>
  ∃ o es ep, h.get? a = some o ∧ o.ExactDict ∧ o.data = .dict es ep ∧ es.toList = xs.map fun x => (⟨nestHash x.1, .ref x.2, .bool true⟩ : DictEntry)

def DicAt (ι : Nat → Addr) (n : Nat) (H : Hp) (a : Addr) : DK → List (D × D) → Prop
  | .K, kvs => ∃ kv : List (Key × V), H a = some (.dK kv) ∧ All2 (fun (p : D × D) (q : Key × V) => p.1 = keyD q.1 ∧ Rep ι n H p.2 q.2) kvs kv
  | .T, kvs => ∃ kv : List (List Key × V), H a = some (.dT kv) ∧ All2 (fun (p : D × D) (q : List Key × V) => p.1 = .tup (q.1.map keyD) ∧ Rep ι n H p.2 q.2) kvs kv
  | .N, kvs => ∃ xs : List (List (List Int) × Addr), H a = some (.ext (dictN a xs)) ∧ (xs.map (·.1)).Nodup ∧ xs.length ≤ sizeLine ∧ (a == sysModules) = false ∧
      All2 (fun (p : D × D) (q : List (List Int) × Addr) => p.1 = nestD q.1 ∧ p.2 = .bl true ∧ NestAt H q.1 q.2) kvs xs

/-- what is kept of a heap: all but the store's own objects -/
structure Ext (ι : Nat → Addr) (n : Nat) (H : Hp) (ι' : Nat → Addr) (n' : Nat) (H' : Hp) : Prop where
  le : n ≤ n'
  same : ∀ h, h < n → ι' h = ι h
  keep : ∀ a o, H a = some o → (∀ h, h < n → a ≠ ι h) → H' a = some o
  new : ∀ h, n ≤ h → h < n' → H (ι' h) = none


def FldsR (W : Wd) (ι : Nat → Addr) (n : Nat) (H : Hp) : List (Nat × D) → List (Str × V) → Prop := All2 fun p q => W.FN[p.1]? = some q.1 ∧ Rep ι n H p.2 q.2
/-- an object of the store stands at a -/
def RepO (W : Wd) (ι : Nat → Addr) (n : Nat) (H : Hp) (a : Addr) : Ob → Prop
  | .lst xs => ∃ vs, H a = some (.lst vs) ∧ Reps ι n H xs vs
  | .dic k kvs => DicAt ι n H a k kvs
  | .lck kvs => ∃ (o : Obj) (kv : List (Key × V)), H a = some (.frz o (.dK kv)) ∧ All2 (fun (p : D × D) (q : Key × V) => p.1 = keyD q.1 ∧ Rep ι n H p.2 q.2) kvs kv
  | .ins c fs => ∃ dx vs, H a = some (.ins (W.CA c) dx vs) ∧ FldsR W ι n H fs vs

structure RSt (W : Wd) (ι : Nat → Addr) (H : Hp) (S : Store) : Prop where
  at_ : ∀ h o, S[h]? = some o → RepO W ι S.length H (ι h) o
  inj : ∀ i j, i < S.length → j < S.length → ι i = ι j → i = j

theorem mut_dic {ι : Nat → Addr} {n : Nat} {H : Hp} {a : Addr} {k : DK} {kvs : List (D × D)} (h : DicAt ι n H a k kvs) : Mut (H a) := by
  cases k with
  | K => obtain ⟨_, e, _⟩ := h; rw [e]; trivial
  | T => obtain ⟨_, e, _⟩ := h; rw [e]; trivial
  | N => obtain ⟨_, e, _⟩ := h; rw [e]; trivial
/-- an object that may be the store's -/
def Sto : Option HO → Prop
  | some (.tup _) => False
  | some (.own _) => False
  | some _ => True
  | none => False
theorem sto_of {o : Option HO} (h : Mut o) : Sto o := by
  cases o with
  | none => exact h
  | some u => cases u <;> first | exact trivial | exact h
theorem RepO.sto {W : Wd} {ι : Nat → Addr} {n : Nat} {H : Hp} {a : Addr} {o : Ob} (h : RepO W ι n H a o) : Sto (H a) := by
  cases o with
  | lst xs => obtain ⟨_, e, _⟩ := h; rw [e]; trivial
  | dic k kvs => exact sto_of (mut_dic h)
  | lck kvs => obtain ⟨_, _, e, _⟩ := h; rw [e]; trivial
  | ins c fs => obtain ⟨_, _, e, _⟩ := h; rw [e]; trivial
theorem mut_some {o : Option HO} (h : Mut o) : ∃ u, o = some u := by
  cases o with
  | none => exact h.elim
  | some u => exact ⟨u, rfl⟩
section
variable {W : Wd} {ι ι' ι2 : Nat → Addr} {n n' n2 : Nat} {H H' H2 H0 : Hp} {S S' S2 : Store}
theorem RSt.sto (R : RSt W ι H S) {h : Nat} (hh : h < S.length) : Sto (H (ι h)) := by
  have e : S[h]? = some S[h] := by simp [hh]
  exact (R.at_ h _ e).sto
theorem RSt.tup_ne (R : RSt W ι H S) {a : Addr} {vs : List V} (e : H a = some (.tup vs)) : ∀ h, h < S.length → a ≠ ι h := fun h hh z => by
  have m := R.sto hh
  rw [← z, e] at m
  exact m
theorem Ext.refl : Ext ι n H ι n H := ⟨Nat.le_refl _, fun _ _ => rfl, fun _ _ e _ => e, fun h h1 h2 => absurd h2 (by omega)⟩
theorem Ext.tup (X : Ext ι S.length H ι' n' H') (R : RSt W ι H S) : ∀ a vs, H a = some (.tup vs) → H' a = some (.tup vs) := fun a vs e => X.keep a _ e (R.tup_ne e)
/-- what is tracked stays tracked -/
theorem Ext.dom (X : Ext ι S.length H ι' S'.length H') (R : RSt W ι' H' S') {a : Addr} (e : H' a = none) : H a = none := by
  cases q : H a with
  | none => rfl
  | some o =>
    by_cases hh : ∃ h, h < S.length ∧ a = ι h
    · obtain ⟨h, h1, h2⟩ := hh
      have m := R.sto (Nat.lt_of_lt_of_le h1 X.le)
      rw [X.same h h1, ← h2, e] at m
      exact m.elim
    · rw [X.keep a o q fun h h1 h2 => hh ⟨h, h1, h2⟩] at e
      cases e
theorem Ext.trans (X : Ext ι S.length H ι' S'.length H') (Y : Ext ι' S'.length H' ι2 n2 H2) (R : RSt W ι' H' S') : Ext ι S.length H ι2 n2 H2 where
  le := Nat.le_trans X.le Y.le
  same := fun h hh => (Y.same h (Nat.lt_of_lt_of_le hh X.le)).trans (X.same h hh)
  keep := fun a o e ha => Y.keep a o (X.keep a o e ha) fun h hh z => by
    by_cases hn : h < S.length
    · exact ha h hn (z.trans (X.same h hn))
    · have q := X.new h (by omega) hh
      rw [← z, e] at q
      cases q
  new := fun h h1 h2 => by
    by_cases hn : h < S'.length
    · rw [Y.same h hn]; exact X.new h h1 hn
    · exact X.dom R (Y.new h (by omega) h2)
/-- an address of no object of the store, with an object: still none of the store's -/
theorem Ext.apart (X : Ext ι n H ι' n' H') {a : Addr} {o : HO} (e : H a = some o) (ha : ∀ h, h < n → a ≠ ι h) : ∀ h, h < n' → a ≠ ι' h := fun h hh z => by
  by_cases hn : h < n
  · exact ha h hn (z.trans (X.same h hn))
  · have q := X.new h (by omega) hh
    rw [← z, e] at q
    cases q
theorem Rep.ext (X : Ext ι S.length H ι' n' H') (R : RSt W ι H S) {d : D} {v : V} (r : Rep ι S.length H d v) : Rep ι' n' H' d v := Rep.mono X.le X.same (X.tup R) d v r
theorem Reps.ext (X : Ext ι S.length H ι' n' H') (R : RSt W ι H S) {d : List D} {v : List V} (r : Reps ι S.length H d v) : Reps ι' n' H' d v := Reps.mono X.le X.same (X.tup R) d v r
theorem NestAt.mono (ht : ∀ a vs, H a = some (.tup vs) → H' a = some (.tup vs)) {kss : List (List Int)} {a : Addr} (h : NestAt H kss a) : NestAt H' kss a := by
  obtain ⟨as, e, r⟩ := h
  exact ⟨as, ht _ _ e, r.mono fun _ _ q => ht _ _ q⟩
/-- a dict that is kept -/
theorem DicAt.mono {a : Addr} {k : DK} {kvs : List (D × D)} (hn : n ≤ n') (hi : ∀ h, h < n → ι' h = ι h) (ht : ∀ a vs, H a = some (.tup vs) → H' a = some (.tup vs)) (hk : ∀ o, H a = some o → H' a = some o) (h : DicAt ι n H a k kvs) : DicAt ι' n' H' a k kvs := by
  cases k with
  | K =>
    obtain ⟨kv, e, r⟩ := h
    exact ⟨kv, hk _ e, r.mono fun p q z => ⟨z.1, Rep.mono hn hi ht _ _ z.2⟩⟩
  | T =>
    obtain ⟨kv, e, r⟩ := h
    exact ⟨kv, hk _ e, r.mono fun p q z => ⟨z.1, Rep.mono hn hi ht _ _ z.2⟩⟩
  | N =>
    obtain ⟨xs, e, nd, z, y, r⟩ := h
    exact ⟨xs, hk _ e, nd, z, y, r.mono fun p q z => ⟨z.1, z.2.1, z.2.2.mono ht⟩⟩
theorem RepO.mono {a : Addr} {o : Ob} (hn : n ≤ n') (hi : ∀ h, h < n → ι' h = ι h) (ht : ∀ a vs, H a = some (.tup vs) → H' a = some (.tup vs)) (hk : ∀ o, H a = some o → H' a = some o) (h : RepO W ι n H a o) : RepO W ι' n' H' a o := by
  cases o with
  | lst xs => obtain ⟨vs, e, r⟩ := h; exact ⟨vs, hk _ e, Reps.mono hn hi ht _ _ r⟩
  | dic k kvs => exact DicAt.mono hn hi ht hk h
  | lck kvs => obtain ⟨o, kv, e, r⟩ := h; exact ⟨o, kv, hk _ e, r.mono fun p q z => ⟨z.1, Rep.mono hn hi ht _ _ z.2⟩⟩
  | ins c fs => obtain ⟨dx, vs, e, r⟩ := h; exact ⟨dx, vs, hk _ e, r.mono fun p q z => ⟨z.1, Rep.mono hn hi ht _ _ z.2⟩⟩

/-! ### results and slots -/
/-- a flat value, without the heap -/
def flatOf : D → Option V
  | .non => some .non
  | .bl b => some (.bl b)
  | .int i => some (.int i)
  | .str s => some (.str s)
  | _ => none
def flatsOf : List D → Option (List V)
  | [] => some []
  | x :: xs => match flatOf x, flatsOf xs with
    | some v, some vs => some (v :: vs)
    | _, _ => none
/-- a list that nothing changes: frozen, or of the program's written part -/
def FrzL (W : Wd) (ι : Nat → Addr) (n : Nat) (H : Hp) (a : Addr) (vs : List V) : Prop :=
  (∃ o, H a = some (.frz o (.lst vs)) ∧ ∀ h, h < n → a ≠ ι h) ∨
    ∃ (o : Obj) (its : Array Value) (m : Nat), W.K.lookup a = some o ∧ o.cls = .type "list" ∧ o.dict = none ∧ o.data = .seq its m ∧ its.size ≤ sizeLine ∧ Vals vs its.toList
theorem FrzL.sqL {W : Wd} {ι : Nat → Addr} {n : Nat} {H : Hp} {a : Addr} {vs : List V} (h : FrzL W ι n H a vs) : SqL W.K H a vs := by
  rcases h with ⟨o, h, _⟩ | h
  · exact .inl (.inr ⟨o, h⟩)
  · exact .inr h
/-- a result r, given as v in H; fresh parts are not in H0 -/
def RR (W : Wd) (H0 : Hp) (ι : Nat → Addr) (n : Nat) (H : Hp) : R → V → Prop
  | .v d, v => Rep ι n H d v
  | .l xs, v => ∃ a vs, v = .ref a ∧ H a = some (.lst vs) ∧ Reps ι n H xs vs ∧ H0 a = none ∧ ∀ h, h < n → a ≠ ι h
  | .b xs, v => ∃ a vs, v = .ref a ∧ H a = some (.lst vs) ∧ Reps ι n H xs vs ∧ ∀ h, h < n → a ≠ ι h
  | .f xs, v => ∃ a vs, v = .ref a ∧ FrzL W ι n H a vs ∧ Reps ι n H xs vs
  | .c xs, v => ∃ a vs, v = .ref a ∧ flatsOf xs = some vs ∧ ∀ H1 : Hp, SqT W.K H1 a vs
  | .d k kvs, v => ∃ a, v = .ref a ∧ DicAt ι n H a k kvs ∧ H0 a = none ∧ ∀ h, h < n → a ≠ ι h
  | .bd k kvs, v => ∃ a, v = .ref a ∧ DicAt ι n H a k kvs ∧ ∀ h, h < n → a ≠ ι h
  | .pr r q, v => ∃ a x y, v = .ref a ∧ H a = some (.tup [x, y]) ∧ RR W H0 ι n H r x ∧ RR W H0 ι n H q y ∧ (x = y → (∃ d, r = .v d) ∨ ∃ d, q = .v d)

def SlOk (W : Wd) (H0 : Hp) (ι : Nat → Addr) (n : Nat) (H : Hp) (o : Option V) : Sl → Prop
  | .no => True
  | .v d => ∃ v, o = some v ∧ Rep ι n H d v
  | .l xs => ∃ a vs, o = some (.ref a) ∧ H a = some (.lst vs) ∧ Reps ι n H xs vs ∧ H0 a = none ∧ ∀ h, h < n → a ≠ ι h
  | .b xs => ∃ a vs, o = some (.ref a) ∧ H a = some (.lst vs) ∧ Reps ι n H xs vs ∧ ∀ h, h < n → a ≠ ι h
  | .f xs => ∃ a vs, o = some (.ref a) ∧ FrzL W ι n H a vs ∧ Reps ι n H xs vs
  | .d k kvs => ∃ a, o = some (.ref a) ∧ DicAt ι n H a k kvs ∧ H0 a = none ∧ ∀ h, h < n → a ≠ ι h
def Sl.own : Sl → Bool
  | .l _ => true
  | .d _ _ => true
  | _ => false
def Sl.lends : Sl → Bool
  | .l _ => true
  | .b _ => true
  | .d _ _ => true
  | _ => false
structure REnv (W : Wd) (H0 : Hp) (ι : Nat → Addr) (n : Nat) (H : Hp) (ρ : Env) (σ : St) : Prop where
  len : ρ.length = σ.length
  at_ : ∀ (i : Nat) s o, ρ[i]? = some s → σ[i]? = some o → SlOk W H0 ι n H o s
  sep : ∀ (i j : Nat) s t a, i ≠ j → ρ[i]? = some s → ρ[j]? = some t → s.own = true → t.lends = true → σ[i]? = some (some (.ref a)) → σ[j]? ≠ some (some (.ref a))
theorem Rd.ext (X : Ext ι n H ι' n' H') {a : Addr} {vs : List V} (h : Rd H a (.lst vs)) (ha : ∀ h, h < n → a ≠ ι h) : Rd H' a (.lst vs) := by
  rcases h with h | ⟨o, h⟩
  · exact .inl (X.keep _ _ h ha)
  · exact .inr ⟨o, X.keep _ _ h ha⟩
theorem Rd.there {a : Addr} {u : HO} (h : Rd H a u) : ∃ o, H a = some o := by
  rcases h with h | ⟨o, h⟩
  · exact ⟨_, h⟩
  · exact ⟨_, h⟩
theorem FrzL.ext (X : Ext ι n H ι' n' H') {a : Addr} {vs : List V} (h : FrzL W ι n H a vs) : FrzL W ι' n' H' a vs := by
  rcases h with ⟨o, h, ha⟩ | h
  · exact .inl ⟨o, X.keep _ _ h ha, X.apart h ha⟩
  · exact .inr h
theorem DicAt.there {a : Addr} {k : DK} {kvs : List (D × D)} (h : DicAt ι n H a k kvs) : ∃ o, H a = some o := mut_some (mut_dic h)
theorem RR.ext (X : Ext ι S.length H ι' n' H') (Z : RSt W ι H S) : ∀ (r : R) (v : V), RR W H0 ι S.length H r v → RR W H0 ι' n' H' r v
  | .v d, v, h => Rep.ext X Z h
  | .l xs, v, h => by
    obtain ⟨a, vs, e, e1, e2, e3, e4⟩ := h
    exact ⟨a, vs, e, X.keep _ _ e1 e4, e2.ext X Z, e3, X.apart e1 e4⟩
  | .b xs, v, h => by
    obtain ⟨a, vs, e, e1, e2, e4⟩ := h
    exact ⟨a, vs, e, X.keep _ _ e1 e4, e2.ext X Z, X.apart e1 e4⟩
  | .f xs, v, h => by
    obtain ⟨a, vs, e, e1, e2⟩ := h
    exact ⟨a, vs, e, e1.ext X, e2.ext X Z⟩
  | .c xs, v, h => h
  | .d k kvs, v, h => by
    obtain ⟨a, e, e1, e3, e4⟩ := h
    obtain ⟨o, q⟩ := e1.there
    exact ⟨a, e, e1.mono X.le X.same (X.tup Z) (fun o z => X.keep _ _ z e4), e3, X.apart q e4⟩
  | .bd k kvs, v, h => by
    obtain ⟨a, e, e1, e4⟩ := h
    obtain ⟨o, q⟩ := e1.there
    exact ⟨a, e, e1.mono X.le X.same (X.tup Z) (fun o z => X.keep _ _ z e4), X.apart q e4⟩
  | .pr r q, v, h => by
    obtain ⟨a, x, y, e, e1, e2, e3, e4⟩ := h
    exact ⟨a, x, y, e, X.tup Z _ _ e1, RR.ext X Z r x e2, RR.ext X Z q y e3, e4⟩
/-- freshness from an elder heap -/
theorem RR.older (hd : ∀ a, H0 a = none → H2 a = none) : ∀ (r : R) (v : V), RR W H0 ι n H r v → RR W H2 ι n H r v
  | .v d, v, h => h
  | .l xs, v, h => by
    obtain ⟨a, vs, e, e1, e2, e3, e4⟩ := h
    exact ⟨a, vs, e, e1, e2, hd _ e3, e4⟩
  | .b xs, v, h => h
  | .f xs, v, h => h
  | .c xs, v, h => h
  | .d k kvs, v, h => by
    obtain ⟨a, e, e1, e3, e4⟩ := h
    exact ⟨a, e, e1, hd _ e3, e4⟩
  | .bd k kvs, v, h => h
  | .pr r q, v, h => by
    obtain ⟨a, x, y, e, e1, e2, e3, e4⟩ := h
    exact ⟨a, x, y, e, e1, RR.older hd r x e2, RR.older hd q y e3, e4⟩
theorem SlOk.ext (X : Ext ι S.length H ι' n' H') (R : RSt W ι H S) {o : Option V} : ∀ {s : Sl}, SlOk W H0 ι S.length H o s → SlOk W H0 ι' n' H' o s
  | .no, h => trivial
  | .v d, ⟨v, e, r⟩ => ⟨v, e, r.ext X R⟩
  | .l xs, ⟨a, vs, e, e1, e2, e3, e4⟩ => ⟨a, vs, e, X.keep _ _ e1 e4, e2.ext X R, e3, X.apart e1 e4⟩
  | .b xs, ⟨a, vs, e, e1, e2, e4⟩ => ⟨a, vs, e, X.keep _ _ e1 e4, e2.ext X R, X.apart e1 e4⟩
  | .f xs, ⟨a, vs, e, e1, e2⟩ => ⟨a, vs, e, e1.ext X, e2.ext X R⟩
  | .d k kvs, ⟨a, e, e1, e3, e4⟩ => by
    obtain ⟨o, q⟩ := e1.there
    exact ⟨a, e, e1.mono X.le X.same (X.tup R) (fun o z => X.keep _ _ z e4), e3, X.apart q e4⟩
theorem REnv.ext {ρ : Env} {σ : St} (h : REnv W H0 ι S.length H ρ σ) (X : Ext ι S.length H ι' n' H') (R : RSt W ι H S) : REnv W H0 ι' n' H' ρ σ :=
  ⟨h.len, fun i s o e1 e2 => (h.at_ i s o e1 e2).ext X R, h.sep⟩

/-! ### the simulations -/
def SimE (W : Wd) (t : TE) (f : E) : Prop := ∀ (σ : St) (H : Hp) (ι : Nat → Addr) (ρ : Env) (S : Store) (H0 : Hp) (r : R) (S' : Store),
  RSt W ι H S → REnv W H0 ι S.length H ρ σ → f ρ S = some (r, S') → ∀ Q : VK,
    (∀ v H' ι', RSt W ι' H' S' → Ext ι S.length H ι' S'.length H' → RR W H ι' S'.length H' r v → Q v H') → t σ H Q
end
end Ev

set_option Elab.async false
set_option linter.all false
set_option maxRecDepth 100000
set_option maxHeartbeats 4000000
/-! Expressions: combinators and their simulations. -/
namespace Ev
open PySem L2

def bnd {α β : Type} (x : Option (α × Store)) (f : α → Store → Option β) : Option β :=
  match x with
  | some (a, S) => f a S
  | none => none
theorem bnd_some {α β : Type} {a : α} {S : Store} {f : α → Store → Option β} : bnd (some (a, S)) f = f a S := rfl
theorem bnd_none {α β : Type} {f : α → Store → Option β} : bnd none f = none := rfl
theorem bnd_eq {α β : Type} {x : Option (α × Store)} {f : α → Store → Option β} {y : β} (h : bnd x f = some y) : ∃ a S, x = some (a, S) ∧ f a S = some y := by
  unfold bnd at h
  split at h
  · exact ⟨_, _, rfl, h⟩
  · cases h

def R.flat : R → Option D
  | .v x => some x
  | _ => none
/-- the items of a list or a tuple -/
def R.seq (S : Store) : R → Option (List D)
  | .v (.tup xs) => some xs
  | .v (.ob h) => (match S[h]? with
    | some (.lst xs) => some xs
    | _ => none)
  | .l xs => some xs
  | .b xs => some xs
  | _ => none
/-- .. of a list -/
def R.lseq (S : Store) : R → Option (List D)
  | .v (.ob h) => (match S[h]? with
    | some (.lst xs) => some xs
    | _ => none)
  | .l xs => some xs
  | .b xs => some xs
  | _ => none
/-- .. of a list that stands by itself -/
def R.tlst (S : Store) : R → Option (List D)
  | .v (.ob h) => (match S[h]? with
    | some (.lst xs) => some xs
    | _ => none)
  | .l xs => some xs
  | .b xs => some xs
  | _ => none

section
variable {W : Wd} {ι ι' : Nat → Addr} {n n' : Nat} {H H' H0 : Hp} {S S' : Store} {ρ : Env} {σ : St}
theorem lseq_rep {r : R} {v : V} {xs : List D} (Z : RSt W ι H S) (h : RR W H0 ι S.length H r v) (e : r.lseq S = some xs) : ∃ a vs, v = .ref a ∧ Rd H a (.lst vs) ∧ Reps ι S.length H xs vs := by
  cases r with
  | v d =>
    cases d with
    | ob k =>
      cases h with
      | ob hk =>
        unfold R.lseq at e
        simp only at e
        split at e
        · rename_i ys q
          cases e
          obtain ⟨vs, e1, e2⟩ := Z.at_ k _ q
          exact ⟨_, vs, rfl, .inl e1, e2⟩
        · cases e
    | _ => cases e
  | l ys =>
    cases e
    obtain ⟨a, vs, e, e1, e2, _⟩ := h
    exact ⟨a, vs, e, .inl e1, e2⟩
  | b ys =>
    cases e
    obtain ⟨a, vs, e, e1, e2, _⟩ := h
    exact ⟨a, vs, e, .inl e1, e2⟩
  | _ => cases e
theorem tlst_rep {r : R} {v : V} {xs : List D} (Z : RSt W ι H S) (h : RR W H0 ι S.length H r v) (e : r.tlst S = some xs) : ∃ a vs, v = .ref a ∧ H a = some (.lst vs) ∧ Reps ι S.length H xs vs := by
  cases r with
  | v d =>
    cases d with
    | ob k =>
      cases h with
      | ob hk =>
        unfold R.tlst at e
        simp only at e
        split at e
        · rename_i ys q
          cases e
          obtain ⟨vs, e1, e2⟩ := Z.at_ k _ q
          exact ⟨_, vs, rfl, e1, e2⟩
        · cases e
    | _ => cases e
  | l ys =>
    cases e
    obtain ⟨a, vs, e, e1, e2, _⟩ := h
    exact ⟨a, vs, e, e1, e2⟩
  | b ys =>
    cases e
    obtain ⟨a, vs, e, e1, e2, _⟩ := h
    exact ⟨a, vs, e, e1, e2⟩
  | _ => cases e
theorem seq_rep {r : R} {v : V} {xs : List D} (Z : RSt W ι H S) (h : RR W H0 ι S.length H r v) (e : r.seq S = some xs) : ∃ a vs, v = .ref a ∧ (Rd H a (.lst vs) ∨ H a = some (.tup vs)) ∧ Reps ι S.length H xs vs := by
  cases r with
  | v d =>
    cases d with
    | ob k =>
      obtain ⟨a, vs, e1, e2, e3⟩ := lseq_rep (r := .v (.ob k)) Z h e
      exact ⟨a, vs, e1, .inl e2, e3⟩
    | tup ys =>
      cases e
      cases h with
      | tup h1 h2 => exact ⟨_, _, rfl, .inr h1, h2⟩
    | _ => cases e
  | l ys =>
    obtain ⟨a, vs, e1, e2, e3⟩ := lseq_rep (r := .l ys) Z h e
    exact ⟨a, vs, e1, .inl e2, e3⟩
  | b ys =>
    obtain ⟨a, vs, e1, e2, e3⟩ := lseq_rep (r := .b ys) Z h e
    exact ⟨a, vs, e1, .inl e2, e3⟩
  | _ => cases e
theorem Rd.sqL {K : PySem.W.Frag} {a : Addr} {vs : List V} (h : Rd H a (.lst vs)) : SqL K H a vs := .inl h
theorem flat_rep {r : R} {v : V} {d : D} (h : RR W H0 ι n H r v) (e : r.flat = some d) : Rep ι n H d v := by
  cases r with
  | v x => cases e; exact h
  | _ => cases e
/-- a new object, not in the store -/
theorem Ext.upd {a : Addr} {o : HO} (h : H a = none) : Ext ι n H ι n (upd H a o) :=
  ⟨Nat.le_refl _, fun _ _ => rfl, fun b u e _ => by rw [upd_ne (ne_of_none e h)]; exact e, fun h h1 h2 => absurd h2 (by omega)⟩
theorem RSt.upd {a : Addr} {o : HO} (Z : RSt W ι H S) (h : H a = none) : RSt W ι (upd H a o) S :=
  ⟨fun k ob e => (Z.at_ k ob e).mono (Nat.le_refl _) (fun _ _ => rfl) (fun b vs q => by rw [upd_ne (ne_of_none q h)]; exact q) fun u q => by rw [upd_ne (ne_of_none q h)]; exact q, Z.inj⟩
theorem RSt.ne_new {a : Addr} (Z : RSt W ι H S) (h : H a = none) : ∀ k, k < S.length → a ≠ ι k := fun k hk z => by
  have m := Z.sto hk
  rw [← z, h] at m
  exact m

/-! ### value-level simulations -/
/-- of a binary operation -/
def SimOp (W : Wd) (r : R2) (g : Store → R → R → Option R) : Prop := ∀ (H : Hp) (ι : Nat → Addr) (S : Store) (Ha Hb : Hp) (x y z : R) (vx vy : V),
  RSt W ι H S → RR W Ha ι S.length H x vx → RR W Hb ι S.length H y vy → g S x y = some z → ∀ Q : VK,
    (∀ v H', RSt W ι H' S → Ext ι S.length H ι S.length H' → RR W H ι S.length H' z v → Q v H') → r vx vy H Q
def eBin (g : Store → R → R → Option R) (fa fb : E) : E := fun ρ S => bnd (fa ρ S) fun x S1 => bnd (fb ρ S1) fun y S2 => (g S2 x y).map fun z => (z, S2)
theorem sim_bin {ta tb : TE} {fa fb : E} {r : R2} {g : Store → R → R → Option R} (ha : SimE W ta fa) (hb : SimE W tb fb) (ho : SimOp W r g) : SimE W (tOp r ta tb) (eBin g fa fb) := by
  intro σ H ι ρ S H0 z S' Z N e Q hQ
  obtain ⟨x, S1, e1, e⟩ := bnd_eq e
  obtain ⟨y, S2, e2, e⟩ := bnd_eq e
  cases q : g S2 x y with
  | none => rw [q] at e; cases e
  | some z' =>
    rw [q] at e
    cases e
    refine ha σ H ι ρ S H0 x S1 Z N e1 _ fun v1 H1 ι1 Z1 X1 R1 => ?_
    refine hb σ H1 ι1 ρ S1 H0 y S' Z1 (N.ext X1 Z) e2 _ fun v2 H2 ι2 Z2 X2 R2 => ?_
    refine ho H2 ι2 S' H H1 x y z v1 v2 Z2 (R1.ext X2 Z1) R2 q _ fun v H3 Z3 X3 R3 => ?_
    have X12 := X1.trans X2 Z1
    exact hQ v H3 ι2 Z3 (X12.trans X3 Z2) (R3.older (fun a h => X12.dom Z2 h) _ _)
/-- of a unary one -/
def SimU (W : Wd) (r : V → Hp → VK → Prop) (g : Store → R → Option R) : Prop := ∀ (H : Hp) (ι : Nat → Addr) (S : Store) (Ha : Hp) (x z : R) (vx : V),
  RSt W ι H S → RR W Ha ι S.length H x vx → g S x = some z → ∀ Q : VK,
    (∀ v H', RSt W ι H' S → Ext ι S.length H ι S.length H' → RR W H ι S.length H' z v → Q v H') → r vx H Q
def eUn (g : Store → R → Option R) (fa : E) : E := fun ρ S => bnd (fa ρ S) fun x S1 => (g S1 x).map fun z => (z, S1)
theorem sim_un {ta : TE} {fa : E} {r : V → Hp → VK → Prop} {g : Store → R → Option R} (ha : SimE W ta fa) (ho : SimU W r g) : SimE W (tUn r ta) (eUn g fa) := by
  intro σ H ι ρ S H0 z S' Z N e Q hQ
  obtain ⟨x, S1, e1, e⟩ := bnd_eq e
  cases q : g S1 x with
  | none => rw [q] at e; cases e
  | some z' =>
    rw [q] at e
    cases e
    refine ha σ H ι ρ S H0 x S' Z N e1 _ fun v1 H1 ι1 Z1 X1 R1 => ?_
    refine ho H1 ι1 S' H x z v1 Z1 R1 q _ fun v H3 Z3 X3 R3 => ?_
    exact hQ v H3 ι1 Z3 (X1.trans X3 Z1) (R3.older (fun a h => X1.dom Z1 h) _ _)

/-! ### names, constants -/
def eVar (i : Nat) : E := fun ρ S => match ρ[i]? with
  | some (.v d) => some (.v d, S)
  | some (.l xs) => some (.b xs, S)
  | some (.b xs) => some (.b xs, S)
  | some (.f xs) => some (.f xs, S)
  | some (.d k kvs) => some (.bd k kvs, S)
  | _ => none
theorem sim_var {i : Nat} : SimE W (tVar i) (eVar i) := by
  intro σ H ι ρ S H0 r S' Z N e Q hQ
  unfold eVar at e
  cases q : ρ[i]? with
  | none => rw [q] at e; cases e
  | some s =>
    rw [q] at e
    have hi : i < σ.length := by
      have := (List.getElem?_eq_some_iff.mp q).1
      rw [N.len] at this
      exact this
    have qs : σ[i]? = some σ[i] := by simp [hi]
    have ok := N.at_ i s _ q qs
    cases s with
    | no => cases e
    | v d =>
      cases e
      obtain ⟨v, ev, rv⟩ := ok
      exact ⟨v, by rw [qs, ev], hQ v H ι Z .refl rv⟩
    | l xs =>
      cases e
      obtain ⟨a, vs, ev, e1, e2, e3, e4⟩ := ok
      exact ⟨.ref a, by rw [qs, ev], hQ _ H ι Z .refl ⟨a, vs, rfl, e1, e2, e4⟩⟩
    | f xs =>
      cases e
      obtain ⟨a, vs, ev, e1, e2⟩ := ok
      exact ⟨.ref a, by rw [qs, ev], hQ _ H ι Z .refl ⟨a, vs, rfl, e1, e2⟩⟩
    | b xs =>
      cases e
      obtain ⟨a, vs, ev, e1, e2, e4⟩ := ok
      exact ⟨.ref a, by rw [qs, ev], hQ _ H ι Z .refl ⟨a, vs, rfl, e1, e2, e4⟩⟩
    | d k kvs =>
      cases e
      obtain ⟨a, ev, e1, e3, e4⟩ := ok
      exact ⟨.ref a, by rw [qs, ev], hQ _ H ι Z .refl ⟨a, rfl, e1, e4⟩⟩
def eLit (d : D) : E := fun _ S => some (.v d, S)
theorem sim_non : SimE W (tC .non) (eLit .non) := by
  intro σ H ι ρ S H0 r S' Z N e Q hQ
  cases e; exact hQ _ H ι Z .refl .non
theorem sim_bl {b : Bool} : SimE W (tC (.bl b)) (eLit (.bl b)) := by
  intro σ H ι ρ S H0 r S' Z N e Q hQ
  cases e; exact hQ _ H ι Z .refl (.bl b)
theorem sim_int {i : Int} : SimE W (tC (.int i)) (eLit (.int i)) := by
  intro σ H ι ρ S H0 r S' Z N e Q hQ
  cases e; exact hQ _ H ι Z .refl (.int i)
theorem sim_str {x : Str} : SimE W (tC (.str x)) (eLit (.str x)) := by
  intro σ H ι ρ S H0 r S' Z N e Q hQ
  cases e; exact hQ _ H ι Z .refl (.str x)

/-! ### truths -/
def R.bool : R → Option Bool
  | .v (.bl x) => some x
  | _ => none
theorem bool_eq {r : R} {b : Bool} (h : r.bool = some b) : r = .v (.bl b) := by
  unfold R.bool at h
  split at h
  · cases h; rfl
  · cases h
/-- and, or of truths; a if t else b -/
def eAnd (fa fb : E) : E := fun ρ S => bnd (fa ρ S) fun x S1 => match x.bool with
  | some true => fb ρ S1
  | some false => some (.v (.bl false), S1)
  | none => none
def eOr (fa fb : E) : E := fun ρ S => bnd (fa ρ S) fun x S1 => match x.bool with
  | some true => some (.v (.bl true), S1)
  | some false => fb ρ S1
  | none => none
def eIf (ft fa fb : E) : E := fun ρ S => bnd (ft ρ S) fun x S1 => match x.bool with
  | some true => fa ρ S1
  | some false => fb ρ S1
  | none => none
def gNot (_ : Store) (x : R) : Option R := x.bool.map fun b => .v (.bl !b)
/-- a test's simulation -/
def SimT (W : Wd) (t : TT) (f : E) : Prop := ∀ (σ : St) (H : Hp) (ι : Nat → Addr) (ρ : Env) (S : Store) (H0 : Hp) (b : Bool) (S' : Store),
  RSt W ι H S → REnv W H0 ι S.length H ρ σ → f ρ S = some (.v (.bl b), S') → ∀ Q : Bool → Hp → Prop,
    (∀ H' ι', RSt W ι' H' S' → Ext ι S.length H ι' S'.length H' → Q b H') → t σ H Q
theorem simT_of {t : TE} {f : E} (h : SimE W t f) : SimT W (tB t) f := by
  intro σ H ι ρ S H0 b S' Z N e Q hQ
  refine h σ H ι ρ S H0 _ S' Z N e _ fun v H' ι' Z' X' R' => ?_
  cases R'
  exact ⟨b, rfl, hQ H' ι' Z' X'⟩
theorem simT_test {t : TE} {f : E} (h : SimE W t f) : SimT W (tTest t) f := simT_of h
/-- the way on behind an expression -/
theorem SimE.then {t : TE} {f : E} (h : SimE W t f) {r : R} {S1 : Store} (Z : RSt W ι H S) (N : REnv W H0 ι S.length H ρ σ) (e : f ρ S = some (r, S1)) {Q : VK}
    (hQ : ∀ v H' ι', RSt W ι' H' S1 → Ext ι S.length H ι' S1.length H' → REnv W H0 ι' S1.length H' ρ σ → RR W H ι' S1.length H' r v → Q v H') : t σ H Q :=
  h σ H ι ρ S H0 r S1 Z N e Q fun v H' ι' Z' X' R' => hQ v H' ι' Z' X' (N.ext X' Z) R'
theorem SimT.then {t : TT} {f : E} (h : SimT W t f) {b : Bool} {S1 : Store} (Z : RSt W ι H S) (N : REnv W H0 ι S.length H ρ σ) (e : f ρ S = some (.v (.bl b), S1)) {Q : Bool → Hp → Prop}
    (hQ : ∀ H' ι', RSt W ι' H' S1 → Ext ι S.length H ι' S1.length H' → REnv W H0 ι' S1.length H' ρ σ → Q b H') : t σ H Q :=
  h σ H ι ρ S H0 b S1 Z N e Q fun H' ι' Z' X' => hQ H' ι' Z' X' (N.ext X' Z)
theorem RR.back (X : Ext ι S.length H ι' S'.length H') (Z : RSt W ι' H' S') {H3 : Hp} {r : R} {v : V} (h : RR W H' ι' n H3 r v) : RR W H ι' n H3 r v := h.older (fun _ q => X.dom Z q) _ _
theorem RR.back2 (X : Ext ι S.length H ι' S'.length H') (Z : RSt W ι' H' S') {ι2 : Nat → Addr} {H3 : Hp} {r : R} {v : V} (h : RR W H' ι2 n H3 r v) : RR W H ι2 n H3 r v := h.older (fun _ q => X.dom Z q) _ _
theorem sim_and {ta tb : TE} {fa fb : E} (ha : SimE W ta fa) (hb : SimE W tb fb) : SimE W (tAndV ta tb) (eAnd fa fb) := by
  intro σ H ι ρ S H0 z S' Z N e Q hQ
  obtain ⟨x, S1, e1, e⟩ := bnd_eq e
  cases q : x.bool with
  | none => rw [q] at e; cases e
  | some b =>
    rw [q] at e
    have ex := bool_eq q
    subst ex
    refine ha.then Z N e1 fun v1 H1 ι1 Z1 X1 N1 R1 => ?_
    cases R1
    refine ⟨b, rfl, ?_⟩
    cases b with
    | true =>
      refine hb.then Z1 N1 e fun v2 H2 ι2 Z2 X2 N2 R2 => hQ v2 H2 ι2 Z2 (X1.trans X2 Z1) (R2.back2 X1 Z1)
    | false =>
      cases e
      exact hQ _ H1 ι1 Z1 X1 (.bl false)
theorem sim_or {ta tb : TE} {fa fb : E} (ha : SimE W ta fa) (hb : SimE W tb fb) : SimE W (tOrV ta tb) (eOr fa fb) := by
  intro σ H ι ρ S H0 z S' Z N e Q hQ
  obtain ⟨x, S1, e1, e⟩ := bnd_eq e
  cases q : x.bool with
  | none => rw [q] at e; cases e
  | some b =>
    rw [q] at e
    have ex := bool_eq q
    subst ex
    refine ha.then Z N e1 fun v1 H1 ι1 Z1 X1 N1 R1 => ?_
    cases R1
    refine ⟨b, rfl, ?_⟩
    cases b with
    | false =>
      refine hb.then Z1 N1 e fun v2 H2 ι2 Z2 X2 N2 R2 => hQ v2 H2 ι2 Z2 (X1.trans X2 Z1) (R2.back2 X1 Z1)
    | true =>
      cases e
      exact hQ _ H1 ι1 Z1 X1 (.bl true)
theorem simT_and {ta tb : TT} {fa fb : E} (ha : SimT W ta fa) (hb : SimT W tb fb) : SimT W (tAnd ta tb) (eAnd fa fb) := by
  intro σ H ι ρ S H0 c S' Z N e Q hQ
  obtain ⟨x, S1, e1, e⟩ := bnd_eq e
  cases q : x.bool with
  | none => rw [q] at e; cases e
  | some b =>
    rw [q] at e
    have ex := bool_eq q
    subst ex
    refine ha.then Z N e1 fun H1 ι1 Z1 X1 N1 => ?_
    cases b with
    | true => exact hb.then Z1 N1 e fun H2 ι2 Z2 X2 N2 => hQ H2 ι2 Z2 (X1.trans X2 Z1)
    | false =>
      cases e
      exact hQ H1 ι1 Z1 X1
theorem simT_or {ta tb : TT} {fa fb : E} (ha : SimT W ta fa) (hb : SimT W tb fb) : SimT W (tOr ta tb) (eOr fa fb) := by
  intro σ H ι ρ S H0 c S' Z N e Q hQ
  obtain ⟨x, S1, e1, e⟩ := bnd_eq e
  cases q : x.bool with
  | none => rw [q] at e; cases e
  | some b =>
    rw [q] at e
    have ex := bool_eq q
    subst ex
    refine ha.then Z N e1 fun H1 ι1 Z1 X1 N1 => ?_
    cases b with
    | false => exact hb.then Z1 N1 e fun H2 ι2 Z2 X2 N2 => hQ H2 ι2 Z2 (X1.trans X2 Z1)
    | true =>
      cases e
      exact hQ H1 ι1 Z1 X1
theorem simT_not {ta : TT} {fa : E} (ha : SimT W ta fa) : SimT W (tNot ta) (eUn gNot fa) := by
  intro σ H ι ρ S H0 c S' Z N e Q hQ
  obtain ⟨x, S1, e1, e⟩ := bnd_eq e
  unfold gNot at e
  cases q : x.bool with
  | none => rw [q] at e; cases e
  | some b =>
    rw [q] at e
    cases e
    have ex := bool_eq q
    subst ex
    exact ha.then Z N e1 fun H1 ι1 Z1 X1 N1 => hQ H1 ι1 Z1 X1
theorem sim_not {ta : TE} {fa : E} (ha : SimE W ta fa) : SimE W (tNotV ta) (eUn gNot fa) := by
  intro σ H ι ρ S H0 c S' Z N e Q hQ
  obtain ⟨x, S1, e1, e⟩ := bnd_eq e
  unfold gNot at e
  cases q : x.bool with
  | none => rw [q] at e; cases e
  | some b =>
    rw [q] at e
    cases e
    have ex := bool_eq q
    subst ex
    refine ha.then Z N e1 fun v1 H1 ι1 Z1 X1 N1 R1 => ?_
    cases R1
    exact ⟨b, rfl, hQ _ H1 ι1 Z1 X1 (.bl _)⟩
theorem sim_if {tt : TT} {ta tb : TE} {ft fa fb : E} (ht : SimT W tt ft) (ha : SimE W ta fa) (hb : SimE W tb fb) : SimE W (tIf tt ta tb) (eIf ft fa fb) := by
  intro σ H ι ρ S H0 z S' Z N e Q hQ
  obtain ⟨x, S1, e1, e⟩ := bnd_eq e
  cases q : x.bool with
  | none => rw [q] at e; cases e
  | some b =>
    rw [q] at e
    have ex := bool_eq q
    subst ex
    refine ht.then Z N e1 fun H1 ι1 Z1 X1 N1 => ?_
    cases b with
    | true => exact ha.then Z1 N1 e fun v2 H2 ι2 Z2 X2 N2 R2 => hQ v2 H2 ι2 Z2 (X1.trans X2 Z1) (R2.back2 X1 Z1)
    | false => exact hb.then Z1 N1 e fun v2 H2 ι2 Z2 X2 N2 R2 => hQ v2 H2 ι2 Z2 (X1.trans X2 Z1) (R2.back2 X1 Z1)
end
end Ev

set_option Elab.async false
set_option linter.all false
set_option maxRecDepth 100000
set_option maxHeartbeats 4000000
/-! Operators by values. -/
namespace Ev
open PySem L2

def cap : Nat := 16777216
theorem cap_eq : cap = sizeLine := by rw [sizeLine_eq]; rfl

/-! ### data -/
mutual
def toPD : D → PyData
  | .non => .none
  | .bl b => .bool b
  | .int i => .int i
  | .str s => .str s
  | .tup xs => .tuple (toPDs xs)
  | .ob _ => .none
def toPDs : List D → List PyData
  | [] => []
  | x :: xs => toPD x :: toPDs xs
end
mutual
/-- no objects within, tuples at most n deep, texts of signs -/
def okN : Nat → D → Bool
  | _, .non => true
  | _, .bl _ => true
  | _, .int _ => true
  | _, .str s => PyData.strOk s
  | 0, .tup _ => false
  | n + 1, .tup xs => okNs n xs
  | _, .ob _ => false
def okNs : Nat → List D → Bool
  | _, [] => true
  | n, x :: xs => okN n x && okNs n xs
end
mutual
theorem okN_lay : ∀ (n : Nat) (d : D), okN n d = true → (toPD d).canLay0 = true ∧ (toPD d).depth ≤ n
  | n, .non, _ => ⟨by simp [toPD, PyData.canLay0], by simp [toPD, PyData.depth]⟩
  | n, .bl _, _ => ⟨by simp [toPD, PyData.canLay0], by simp [toPD, PyData.depth]⟩
  | n, .int _, _ => ⟨by simp [toPD, PyData.canLay0], by simp [toPD, PyData.depth]⟩
  | n, .str s, h => ⟨by simpa [toPD, PyData.canLay0, okN] using h, by simp [toPD, PyData.depth]⟩
  | 0, .tup xs, h => by simp [okN] at h
  | n + 1, .tup xs, h => by
    have q := okNs_lay n xs (by simpa [okN] using h)
    exact ⟨by simpa [toPD, PyData.canLay0] using q.1, by simpa [toPD, PyData.depth] using q.2⟩
  | n, .ob _, h => by cases n <;> simp [okN] at h
theorem okNs_lay : ∀ (n : Nat) (d : List D), okNs n d = true → PyData.canLayAll0 (toPDs d) = true ∧ PyData.depthAll (toPDs d) ≤ n
  | n, [], _ => ⟨by simp [toPDs, PyData.canLayAll0], by simp [toPDs, PyData.depthAll]⟩
  | n, x :: xs, h => by
    simp only [okNs, Bool.and_eq_true] at h
    have q1 := okN_lay n x h.1
    have q2 := okNs_lay n xs h.2
    refine ⟨by simp [toPDs, PyData.canLayAll0, q1.1, q2.1], ?_⟩
    simp only [toPDs, PyData.depthAll]
    exact Nat.max_le.mpr ⟨q1.2, q2.2⟩
end
theorem shaped_of {d : D} (h : okN 60 d = true) : SeqAt.shaped (toPD d) = true := by
  have q := okN_lay 60 d h
  unfold SeqAt.shaped
  simp only [q.1, Bool.true_and, decide_eq_true_eq]
  omega
theorem shaped_list {d : List D} (h : okNs 60 d = true) : SeqAt.shaped (.list (toPDs d)) = true := by
  have q := okNs_lay 60 d h
  unfold SeqAt.shaped
  have e1 : (PyData.list (toPDs d)).canLay0 = true := by simpa [PyData.canLay0] using q.1
  have e2 : (PyData.list (toPDs d)).depth ≤ 64 := by simp only [PyData.depth]; omega
  simp only [e1, Bool.true_and, decide_eq_true_eq]
  exact e2
section
variable {W : Wd} {ι : Nat → Addr} {n : Nat} {H H0 : Hp} {S : Store} {K : PySem.W.Frag}
mutual
theorem Rep.dp : ∀ (m : Nat) (d : D) (v : V), okN m d = true → Rep ι n H d v → Dp K H v (toPD d)
  | m, .non, _, _, h => by cases h; rw [toPD]; exact .non
  | m, .bl b, _, _, h => by cases h; rw [toPD]; exact .bl b
  | m, .int i, _, _, h => by cases h; rw [toPD]; exact .int i
  | m, .str s, _, _, h => by cases h; rw [toPD]; exact .str s
  | 0, .tup xs, _, o, h => by simp [okN] at o
  | m + 1, .tup xs, _, o, h => by
    cases h with
    | tup h1 h2 =>
      rw [toPD]
      exact .tup (.of h1) (Reps.dp m xs _ (by simpa [okN] using o) h2)
  | m, .ob k, _, o, h => by cases m <;> simp [okN] at o
theorem Reps.dp : ∀ (m : Nat) (d : List D) (v : List V), okNs m d = true → Reps ι n H d v → DpAll K H v (toPDs d)
  | m, [], _, _, h => by cases h; rw [toPDs]; exact .nil
  | m, x :: xs, _, o, h => by
    simp only [okNs, Bool.and_eq_true] at o
    cases h with
    | cons h1 h2 =>
      rw [toPDs]
      exact .cons (Rep.dp m x _ o.1 h1) (Reps.dp m xs _ o.2 h2)
end
/-- a result as data -/
def R.pd (S : Store) (x : R) : Option PyData :=
  match x.lseq S with
  | some xs => if okNs 60 xs = true then some (.list (toPDs xs)) else none
  | none => (match x with
    | .v y => if okN 60 y = true then some (toPD y) else none
    | _ => none)
theorem pd_dp {x : R} {v : V} {p : PyData} (Z : RSt W ι H S) (h : RR W H0 ι S.length H x v) (e : x.pd S = some p) : Dp K H v p ∧ SeqAt.shaped p = true := by
  unfold R.pd at e
  cases q : x.lseq S with
  | some xs =>
    rw [q] at e
    simp only at e
    by_cases o : okNs 60 xs = true
    · rw [if_pos o] at e
      cases e
      obtain ⟨a, vs, rfl, e1, e2⟩ := lseq_rep Z h q
      exact ⟨.lst (.inl e1) (Reps.dp 60 xs vs o e2), shaped_list o⟩
    · rw [if_neg o] at e; cases e
  | none =>
    rw [q] at e
    cases x with
    | v y =>
      simp only at e
      by_cases o : okN 60 y = true
      · rw [if_pos o] at e
        cases e
        exact ⟨Rep.dp 60 y v o h, shaped_of o⟩
      · rw [if_neg o] at e; cases e
    | _ => cases e

/-! ### new things -/
theorem new_tup {p : Addr} {xs : List D} {vs : List V} (Z : RSt W ι H S) (hp : H p = none) (r : Reps ι S.length H xs vs) {Q : VK}
    (hQ : ∀ v H', RSt W ι H' S → Ext ι S.length H ι S.length H' → RR W H ι S.length H' (.v (.tup xs)) v → Q v H') : Q (.ref p) (upd H p (.tup vs)) := by
  have X : Ext ι S.length H ι S.length (upd H p (.tup vs)) := Ext.upd hp
  exact hQ _ _ (Z.upd hp) X (.tup upd_same (r.ext X Z))
theorem new_lst {p : Addr} {xs : List D} {vs : List V} (Z : RSt W ι H S) (hp : H p = none) (r : Reps ι S.length H xs vs) {Q : VK}
    (hQ : ∀ v H', RSt W ι H' S → Ext ι S.length H ι S.length H' → RR W H ι S.length H' (.l xs) v → Q v H') : Q (.ref p) (upd H p (.lst vs)) := by
  have X : Ext ι S.length H ι S.length (upd H p (.lst vs)) := Ext.upd hp
  exact hQ _ _ (Z.upd hp) X ⟨p, vs, rfl, upd_same, r.ext X Z, hp, Z.ne_new hp⟩

/-! ### + -/
def R.cat (S : Store) (x y : R) : Option R := match x.tlst S, y.tlst S with
  | some us, some ws => if us.length + ws.length ≤ cap then some (.l (us ++ ws)) else none
  | _, _ => none
def gAdd (S : Store) (x y : R) : Option R := match x, y with
  | .v (.int i), .v (.int j) => some (.v (.int (i + j)))
  | .v (.str a), .v (.str b) => if a.length + b.length ≤ cap then some (.v (.str (a ++ b))) else none
  | .v (.tup a), .v (.tup b) => if a.length + b.length ≤ cap then some (.v (.tup (a ++ b))) else none
  | x, y => x.cat S y
def rStrAdd : R2 := fun x y H Q => ∃ i j, x = .str i ∧ y = .str j ∧ i.length + j.length ≤ sizeLine ∧ Q (.str (i ++ j)) H
def rAddA (K : PySem.W.Frag) : R2 := fun x y H Q => ((rI0 fun i j => .int (i + j)) x y H Q ∨ rStrAdd x y H Q) ∨ (rCatA K x y H Q ∨ rCat x y H Q)
theorem op_addA {X : Cx} : OpR X (binaryOp .Add) (rAddA X.K) := OpR.or (OpR.or op_add op_add_str) (OpR.or op_catA op_cat)
theorem Reps.nil_iff {ds : List D} {vs : List V} (h : Reps ι n H ds vs) : vs = [] ↔ ds = [] := by
  cases h <;> simp
theorem cat_sim {Ha Hb : Hp} {x y z : R} {vx vy : V} (Z : RSt W ι H S) (hx : RR W Ha ι S.length H x vx) (hy : RR W Hb ι S.length H y vy) (e : x.cat S y = some z) {Q : VK}
    (hQ : ∀ v H', RSt W ι H' S → Ext ι S.length H ι S.length H' → RR W H ι S.length H' z v → Q v H') : rCat vx vy H Q := by
  unfold R.cat at e
  split at e
  · rename_i a b q1 q2
    by_cases hl : a.length + b.length ≤ cap
    · rw [if_pos hl] at e
      cases e
      obtain ⟨p1, v1, rfl, e1, r1⟩ := tlst_rep Z hx q1
      obtain ⟨p2, v2, rfl, e2, r2⟩ := tlst_rep Z hy q2
      refine ⟨p1, p2, v1, v2, rfl, rfl, e1, e2, by rw [← r1.length, ← r2.length, ← cap_eq]; exact hl, fun p hp => ?_⟩
      exact new_lst Z hp (r1.append r2) hQ
    · rw [if_neg hl] at e; cases e
  · cases e
theorem sim_add : SimOp W (rAddA K) gAdd := by
  intro H ι S Ha Hb x y z vx vy Z hx hy e Q hQ
  unfold gAdd at e
  split at e
  · cases e
    cases hx; cases hy
    exact .inl (.inl ⟨_, _, rfl, rfl, hQ _ H Z .refl (.int _)⟩)
  · rename_i a b
    by_cases hl : a.length + b.length ≤ cap
    · rw [if_pos hl] at e
      cases e
      cases hx; cases hy
      exact .inl (.inr ⟨_, _, rfl, rfl, by rw [← cap_eq]; exact hl, hQ _ H Z .refl (.str _)⟩)
    · rw [if_neg hl] at e; cases e
  · rename_i a b
    by_cases hl : a.length + b.length ≤ cap
    · rw [if_pos hl] at e
      cases e
      cases hx with
      | tup e1 r1 =>
        cases hy with
        | tup e2 r2 =>
          refine .inr (.inl ⟨_, _, _, _, rfl, rfl, .of e1, .of e2, by rw [← r1.length, ← r2.length, ← cap_eq]; exact hl, fun h => ?_, fun h1 h2 => ?_, fun h1 h2 p hp => ?_⟩)
          · have : a = [] := r1.nil_iff.mp h
            subst this
            exact hQ _ H Z .refl (.tup e2 r2)
          · have : b = [] := r2.nil_iff.mp h2
            subst this
            rw [List.append_nil] at hQ
            exact hQ _ H Z .refl (.tup e1 r1)
          · exact new_tup Z hp (r1.append r2) hQ
    · rw [if_neg hl] at e; cases e
  · exact .inr (.inr (cat_sim Z hx hy e hQ))

/-! ### - * // % ** and comparisons of ints -/
def R.int : R → Option Int
  | .v (.int x) => some x
  | _ => none
theorem int_eq {r : R} {i : Int} (h : r.int = some i) : r = .v (.int i) := by
  unfold R.int at h
  split at h
  · cases h; rfl
  · cases h
def gI (c : Int → Int → Bool) (f : Int → Int → D) (_ : Store) (x y : R) : Option R := match x.int, y.int with
  | some i, some j => if c i j = true then some (.v (f i j)) else none
  | _, _ => none
theorem gI_eq {c : Int → Int → Bool} {f : Int → Int → D} {x y z : R} (h : gI c f S x y = some z) : ∃ i j, x = .v (.int i) ∧ y = .v (.int j) ∧ c i j = true ∧ z = .v (f i j) := by
  unfold gI at h
  split at h
  · rename_i i j q1 q2
    by_cases hc : c i j = true
    · rw [if_pos hc] at h
      cases h
      exact ⟨i, j, int_eq q1, int_eq q2, hc, rfl⟩
    · rw [if_neg hc] at h; cases h
  · cases h
theorem sim_I {c : Int → Int → Bool} {f : Int → Int → D} {C : Int → Int → Prop} {g : Int → Int → V} (hc : ∀ i j, c i j = true → C i j) (hf : ∀ ι n H i j, Rep ι n H (f i j) (g i j)) : SimOp W (rI C g) (gI c f) := by
  intro H ι S Ha Hb x y z vx vy Z hx hy e Q hQ
  obtain ⟨i, j, rfl, rfl, h, rfl⟩ := gI_eq e
  cases hx; cases hy
  exact ⟨i, j, rfl, rfl, hc i j h, hQ _ H Z .refl (hf _ _ _ _ _)⟩
theorem sim_I0 {f : Int → Int → D} {g : Int → Int → V} (hf : ∀ ι n H i j, Rep ι n H (f i j) (g i j)) : SimOp W (rI0 g) (gI (fun _ _ => true) f) := by
  intro H ι S Ha Hb x y z vx vy Z hx hy e Q hQ
  obtain ⟨i, j, rfl, rfl, h, rfl⟩ := gI_eq e
  cases hx; cases hy
  exact ⟨i, j, rfl, rfl, hQ _ H Z .refl (hf _ _ _ _ _)⟩
def gSub := gI (fun _ _ => true) fun i j => .int (i - j)
theorem sim_sub : SimOp W (rI0 fun i j => .int (i - j)) gSub := sim_I0 fun _ _ _ _ _ => .int _
def gFdiv := gI (fun _ j => decide (0 < j) && decide (j < 1073741824)) fun i j => .int (i / j)
theorem sim_fdiv : SimOp W (rI CDiv fun i j => .int (i / j)) gFdiv := sim_I (fun i j h => by simpa [CDiv] using h) fun _ _ _ _ _ => .int _
def gMod := gI (fun _ j => decide (0 < j)) fun i j => .int (i % j)
theorem sim_mod : SimOp W (rI (fun _ j => 0 < j) fun i j => .int (i % j)) gMod := sim_I (fun i j h => by simpa using h) fun _ _ _ _ _ => .int _
def gPow := gI (fun i j => decide (0 ≤ j) && decide (j ≤ 1000) && decide (i.natAbs < 1000)) fun i j => .int (i ^ j.toNat)
theorem sim_pow : SimOp W (rI CPow fun i j => .int (i ^ j.toNat)) gPow := sim_I (fun i j h => by
  simp only [Bool.and_eq_true, decide_eq_true_eq] at h
  exact ⟨h.1.1, by omega, Nat.lt_trans h.2 (by decide)⟩) fun _ _ _ _ _ => .int _
def gLt := gI (fun _ _ => true) fun i j => .bl (decide (i < j))
theorem sim_lt : SimOp W (rI0 fun i j => .bl (decide (i < j))) gLt := sim_I0 fun _ _ _ _ _ => .bl _
def gLe := gI (fun _ _ => true) fun i j => .bl (decide (i ≤ j))
theorem sim_le : SimOp W (rI0 fun i j => .bl (decide (i ≤ j))) gLe := sim_I0 fun _ _ _ _ _ => .bl _
def gGt := gI (fun _ _ => true) fun i j => .bl (decide (j < i))
theorem sim_gt : SimOp W (rI0 fun i j => .bl (decide (j < i))) gGt := sim_I0 fun _ _ _ _ _ => .bl _
def gGe := gI (fun _ _ => true) fun i j => .bl (decide (j ≤ i))
theorem sim_ge : SimOp W (rI0 fun i j => .bl (decide (j ≤ i))) gGe := sim_I0 fun _ _ _ _ _ => .bl _
def small64 (i : Int) : Bool := decide (-(18446744073709551616) < i) && decide (i < 18446744073709551616)
def gMul (S : Store) (x y : R) : Option R := match x, y with
  | .v (.int i), .v (.int j) => if small64 i || small64 j then some (.v (.int (i * j))) else none
  | .v (.tup a), .v (.int j) => if !a.isEmpty && decide (2 ≤ j) && decide (j ≤ 1000) && decide (a.length ≤ 1000) then some (.v (.tup (List.replicate j.toNat a).flatten)) else none
  | x, .v (.int j) => (match x.tlst S with
    | some a => if decide (-(9223372036854775808) ≤ j) && decide (j < 9223372036854775808) && decide (a.length * j.toNat ≤ cap) then some (.l (List.replicate j.toNat a).flatten) else none
    | none => none)
  | _, _ => none
def rMulA (K : PySem.W.Frag) : R2 := fun x y H Q => (rI CMul fun i j => .int (i * j)) x y H Q ∨ (rRepT K x y H Q ∨ rRep x y H Q)
theorem op_mulA {X : Cx} : OpR X (binaryOp .Mult) (rMulA X.K) := OpR.or op_mul (OpR.or op_repT op_rep)
theorem Reps.flatRep {ds : List D} {vs : List V} (h : Reps ι n H ds vs) : ∀ m : Nat, Reps ι n H (List.replicate m ds).flatten (List.replicate m vs).flatten
  | 0 => by simp; exact .nil
  | m + 1 => by
    rw [List.replicate_succ, List.replicate_succ, List.flatten_cons, List.flatten_cons]
    exact h.append (Reps.flatRep h m)
theorem mulL_sim {Ha : Hp} {x z : R} {vx : V} {j : Int} (Z : RSt W ι H S) (hx : RR W Ha ι S.length H x vx)
    (e : (match x.tlst S with
    | some a => if decide (-(9223372036854775808) ≤ j) && decide (j < 9223372036854775808) && decide (a.length * j.toNat ≤ cap) then some (.l (List.replicate j.toNat a).flatten) else none
    | none => none) = some z) {Q : VK}
    (hQ : ∀ v H', RSt W ι H' S → Ext ι S.length H ι S.length H' → RR W H ι S.length H' z v → Q v H') : rRep vx (.int j) H Q := by
  split at e
  · rename_i a q1
    split at e
    · rename_i c
      cases e
      simp only [Bool.and_eq_true, decide_eq_true_eq] at c
      obtain ⟨p1, v1, rfl, e1, r1⟩ := tlst_rep Z hx q1
      refine ⟨p1, j, v1, rfl, rfl, e1, by omega, by omega, by rw [← r1.length, ← cap_eq]; exact c.2, fun p hp => ?_⟩
      exact new_lst Z hp (r1.flatRep _) hQ
    · cases e
  · cases e
theorem small64_ok {i : Int} (h : small64 i = true) : -(2 ^ 64) < i ∧ i < 2 ^ 64 := by
  simp only [small64, Bool.and_eq_true, decide_eq_true_eq] at h
  exact ⟨by omega, by omega⟩
theorem sim_mul : SimOp W (rMulA K) gMul := by
  intro H ι S Ha Hb x y z vx vy Z hx hy e Q hQ
  unfold gMul at e
  split at e
  · split at e
    · rename_i i j c
      cases e
      cases hx; cases hy
      refine .inl ⟨_, _, rfl, rfl, ?_, hQ _ H Z .refl (.int _)⟩
      rcases Bool.or_eq_true_iff.mp c with c | c
      · exact .inl (small64_ok c)
      · exact .inr (small64_ok c)
    · cases e
  · split at e
    · rename_i a j c
      cases e
      simp only [Bool.and_eq_true, decide_eq_true_eq] at c
      obtain ⟨⟨⟨c1, c2⟩, c3⟩, c4⟩ := c
      cases hy
      cases hx with
      | tup e1 r1 =>
        refine .inr (.inl ⟨_, _, _, rfl, rfl, .of e1, fun q => ?_, c2, c3, by rw [← r1.length]; exact c4, fun p hp => new_tup Z hp (r1.flatRep _) hQ⟩)
        have : a = [] := r1.nil_iff.mp q
        subst this
        simp at c1
    · cases e
  · rename_i x j _ _
    cases hy
    exact .inr (.inr (mulL_sim Z hx e hQ))
  · cases e
def gNeg (_ : Store) (x : R) : Option R := x.int.map fun i => .v (.int (-i))
theorem sim_neg : SimU W (rU fun i => .int (-i)) gNeg := by
  intro H ι S Ha x z vx Z hx e Q hQ
  unfold gNeg at e
  cases q : x.int with
  | none => rw [q] at e; cases e
  | some i =>
    rw [q] at e
    cases e
    have := int_eq q
    subst this
    cases hx
    exact ⟨i, rfl, hQ _ H Z .refl (.int _)⟩

/-! ### == != is -/
def gEq (S : Store) (x y : R) : Option R := match x.pd S, y.pd S with
  | some a, some b => some (.v (.bl (PyData.eqv a b)))
  | _, _ => none
def gNe (S : Store) (x y : R) : Option R := match x.pd S, y.pd S with
  | some a, some b => some (.v (.bl (!PyData.eqv a b)))
  | _, _ => none
theorem sim_eq : SimOp W (rEqD K) gEq := by
  intro H ι S Ha Hb x y z vx vy Z hx hy e Q hQ
  unfold gEq at e
  split at e
  · rename_i a b q1 q2
    cases e
    have d1 := pd_dp (K := K) Z hx q1
    have d2 := pd_dp (K := K) Z hy q2
    exact ⟨a, b, d1.1, d2.1, d1.2, d2.2, hQ _ H Z .refl (.bl _)⟩
  · cases e
theorem sim_ne : SimOp W (rNeD K) gNe := by
  intro H ι S Ha Hb x y z vx vy Z hx hy e Q hQ
  unfold gNe at e
  split at e
  · rename_i a b q1 q2
    cases e
    have d1 := pd_dp (K := K) Z hx q1
    have d2 := pd_dp (K := K) Z hy q2
    exact ⟨a, b, d1.1, d2.1, d1.2, d2.2, hQ _ H Z .refl (.bl _)⟩
  · cases e
def R.isNone : R → Bool
  | .v .non => true
  | _ => false
theorem isNone_rep {x : R} {v : V} (h : RR W H0 ι n H x v) : decide (v = .non) = x.isNone := by
  cases x with
  | v d =>
    cases h <;> simp [R.isNone]
  | l xs => obtain ⟨a, vs, rfl, _⟩ := h; simp [R.isNone]
  | b xs => obtain ⟨a, vs, rfl, _⟩ := h; simp [R.isNone]
  | f xs => obtain ⟨a, vs, rfl, _⟩ := h; simp [R.isNone]
  | c xs => obtain ⟨a, vs, rfl, _⟩ := h; simp [R.isNone]
  | d k kvs => obtain ⟨a, rfl, _⟩ := h; simp [R.isNone]
  | bd k kvs => obtain ⟨a, rfl, _⟩ := h; simp [R.isNone]
  | pr r q => obtain ⟨a, x, y, rfl, _⟩ := h; simp [R.isNone]
def gIsN (_ : Store) (x : R) : Option R := some (.v (.bl x.isNone))
def gNotN (_ : Store) (x : R) : Option R := some (.v (.bl (!x.isNone)))
theorem sim_isN {ta : TE} {fa : E} (ha : SimE W ta fa) : SimE W (tIsN ta) (eUn gIsN fa) := by
  intro σ H ι ρ S H0 c S' Z N e Q hQ
  obtain ⟨x, S1, e1, e⟩ := bnd_eq e
  cases e
  refine ha.then Z N e1 fun v1 H1 ι1 Z1 X1 N1 R1 => ?_
  rw [isNone_rep R1]
  exact hQ _ H1 ι1 Z1 X1 (.bl _)
theorem sim_notN {ta : TE} {fa : E} (ha : SimE W ta fa) : SimE W (tNotN ta) (eUn gNotN fa) := by
  intro σ H ι ρ S H0 c S' Z N e Q hQ
  obtain ⟨x, S1, e1, e⟩ := bnd_eq e
  cases e
  refine ha.then Z N e1 fun v1 H1 ι1 Z1 X1 N1 R1 => ?_
  rw [isNone_rep R1]
  exact hQ _ H1 ι1 Z1 X1 (.bl _)
/-- is True, is not True (of a truth) -/
def gIsB (_ : Store) (x y : R) : Option R := match x.bool, y.bool with
  | some a, some b => some (.v (.bl (decide (a = b))))
  | _, _ => none
def gNotB (_ : Store) (x y : R) : Option R := match x.bool, y.bool with
  | some a, some b => some (.v (.bl (!decide (a = b))))
  | _, _ => none
theorem sim_isB : SimOp W rIsB gIsB := by
  intro H ι S Ha Hb x y z vx vy Z hx hy e Q hQ
  unfold gIsB at e
  split at e
  · rename_i a b q1 q2
    cases e
    have := bool_eq q1; subst this
    have := bool_eq q2; subst this
    cases hx; cases hy
    exact ⟨a, b, rfl, rfl, hQ _ H Z .refl (.bl _)⟩
  · cases e
theorem sim_notB : SimOp W rNotB gNotB := by
  intro H ι S Ha Hb x y z vx vy Z hx hy e Q hQ
  unfold gNotB at e
  split at e
  · rename_i a b q1 q2
    cases e
    have := bool_eq q1; subst this
    have := bool_eq q2; subst this
    cases hx; cases hy
    exact ⟨a, b, rfl, rfl, hQ _ H Z .refl (.bl _)⟩
  · cases e
end
end Ev

set_option Elab.async false
set_option linter.all false
set_option maxRecDepth 100000
set_option maxHeartbeats 4000000
/-! Keys that are tuples of tuples of numbers. -/
namespace Ev
open PySem L2

section
variable {P : Program} {w : World}
/-- the tuple at a holds, place by place, tuples of these numbers -/
def NestIs (P : Program) (w : World) (h : Heap) (kss : List (List Int)) (a : Addr) : Prop :=
  ∃ o items n, h.get? a = some o ∧ o.cls = .type "tuple" ∧ o.data = .seq items n ∧ All2 (fun (is : List Int) (v : Value) => ∃ b, v = .ref b ∧ IsTupleKey (intKind P w) h is b) kss items.toList
theorem NestIs.ty {s : Shared} {kss : List (List Int)} {a : Addr} (x : NestIs P w s.heap kss a) : s.TypeIs (.ref a) "tuple" :=
  let ⟨o, _, _, ho, hc, _⟩ := x
  ⟨o, ho, hc⟩
theorem all2_inj {h : Heap} : ∀ {x y : List (List Int)} {vs : List Value}, All2 (fun (is : List Int) (v : Value) => ∃ b, v = .ref b ∧ IsTupleKey (intKind P w) h is b) x vs →
    All2 (fun (is : List Int) (v : Value) => ∃ b, v = .ref b ∧ IsTupleKey (intKind P w) h is b) y vs → x = y
  | _, _, _, .nil, .nil => rfl
  | _, _, _, .cons ⟨b, e, q⟩ t, .cons ⟨c, e', q'⟩ t' => by
    rw [e] at e'
    cases e'
    rw [q.inj q', all2_inj t t']
theorem NestIs.inj {h : Heap} {a : Addr} {x y : List (List Int)} (hx : NestIs P w h x a) (hy : NestIs P w h y a) : x = y := by
  obtain ⟨o, items, n, ho, _, hd, hi⟩ := hx
  obtain ⟨o', items', n', ho', _, hd', hi'⟩ := hy
  rw [ho] at ho'
  cases ho'
  rw [hd] at hd'
  cases hd'
  exact all2_inj hi hi'
theorem NestIs.keeps {h h' : Heap} {kss : List (List Int)} {a d : Addr} {o : Obj} {es ep} (x : NestIs P w h kss a) (ho : h.get? d = some o) (hd : o.data = .dict es ep) (hs : Heap.SameBut d h h') : NestIs P w h' kss a := by
  obtain ⟨oa, items, n, ha, hc, hda, hi⟩ := x
  have hne : a ≠ d := fun z => by
    rw [z, ho] at ha
    cases ha
    rw [hd] at hda
    cases hda
  exact ⟨oa, items, n, (hs.2 a hne).trans ha, hc, hda, hi.mono fun is v ⟨b, e, q⟩ => ⟨b, e, q.keeps ho hd hs⟩⟩
def intsD (is : List Int) : PyData := .tuple (is.map PyData.int)
theorem items_ints {is : List Int} {vs : List Value} (q : ItemsAre (intKind P w) is vs) {h : Heap} : ReadsAll h vs (is.map PyData.int) [] := by
  induction q with
  | nil => exact .nil
  | cons h1 _ ih =>
    obtain ⟨t, rfl⟩ := Value.isInt_shape h1
    exact ReadsAll.cons (as := []) (.int _ t) ih
theorem key_reads {h : Heap} {is : List Int} {b : Addr} (q : IsTupleKey (intKind P w) h is b) : Reads h (.ref b) (intsD is) [] := by
  obtain ⟨o, items, n, ho, hc, hd, hi⟩ := q
  exact .tuple ho hc hd (items_ints hi)
theorem nest_reads {h : Heap} {kss : List (List Int)} {a : Addr} (q : NestIs P w h kss a) : Reads h (.ref a) (.tuple (kss.map intsD)) [] := by
  obtain ⟨o, items, n, ho, hc, hd, hi⟩ := q
  refine .tuple ho hc hd ?_
  have all : ∀ {ks : List (List Int)} {vs : List Value}, All2 (fun (is : List Int) (v : Value) => ∃ b, v = .ref b ∧ IsTupleKey (intKind P w) h is b) ks vs → ReadsAll h vs (ks.map intsD) [] := by
    intro ks vs q
    induction q with
    | nil => exact .nil
    | cons h1 _ ih =>
      obtain ⟨b, rfl, q⟩ := h1
      exact ReadsAll.cons (as := []) (key_reads q) ih
  exact all hi
theorem eqv_ints : ∀ x y : List Int, PyData.eqvAll (x.map PyData.int) (y.map PyData.int) = decide (x = y)
  | [], [] => rfl
  | [], _ :: _ => rfl
  | _ :: _, [] => rfl
  | x :: xs, y :: ys => by
    simp only [List.map_cons, PyData.eqvAll, PyData.eqv, eqv_ints xs ys]
    by_cases h1 : x = y <;> by_cases h2 : xs = ys <;> simp [h1, h2]
theorem eqv_nest : ∀ x y : List (List Int), PyData.eqvAll (x.map intsD) (y.map intsD) = decide (x = y)
  | [], [] => rfl
  | [], _ :: _ => rfl
  | _ :: _, [] => rfl
  | x :: xs, y :: ys => by
    have e0 : PyData.eqv (intsD x) (intsD y) = decide (x = y) := by simp only [intsD, PyData.eqv, eqv_ints x y]
    simp only [List.map_cons, PyData.eqvAll, e0, eqv_nest xs ys]
    by_cases h1 : x = y <;> by_cases h2 : xs = ys <;> simp [h1, h2]
theorem lay_ints : ∀ x : List Int, PyData.canLayAll0 (x.map PyData.int) = true ∧ PyData.depthAll (x.map PyData.int) = 0
  | [] => ⟨by simp [PyData.canLayAll0], by simp [PyData.depthAll]⟩
  | x :: xs => by
    have q := lay_ints xs
    exact ⟨by simp [PyData.canLayAll0, PyData.canLay0, q.1], by simp [PyData.depthAll, PyData.depth, q.2]⟩
theorem lay_nest : ∀ x : List (List Int), PyData.canLayAll0 (x.map intsD) = true ∧ PyData.depthAll (x.map intsD) ≤ 1
  | [] => ⟨by simp [PyData.canLayAll0], by simp [PyData.depthAll]⟩
  | x :: xs => by
    have q := lay_nest xs
    have q1 := lay_ints x
    refine ⟨by simp [PyData.canLayAll0, intsD, PyData.canLay0, q1.1]; simpa [intsD] using q.1, ?_⟩
    simp only [List.map_cons, PyData.depthAll]
    refine Nat.max_le.mpr ⟨?_, q.2⟩
    simp [intsD, PyData.depth, q1.2]
variable {A : Around} {E : Value → Shared → Prop} {s : Shared}
theorem nest_eq {x y : List (List Int)} {a b : Addr} {Q : Bool → Shared → Prop} (hu : A.units + 8 < cLine) (hx : NestIs P w s.heap x a) (hy : NestIs P w s.heap y b) (h : Q (decide (x = y)) s) :
    wpAny (model P w) A (eqBool (.ref a) (.ref b)) Q E s := by
  have l1 := lay_nest x
  have l2 := lay_nest y
  have d1 : (PyData.tuple (x.map intsD)).depth ≤ 2 := by simp only [PyData.depth]; omega
  refine SeqAt.eqBoolOverData P w A E s _ _ _ _ _ _ Q (nest_reads hx) (nest_reads hy) (by simpa [PyData.canLay0] using l1.1) (by simpa [PyData.canLay0] using l2.1) ?_ ?_
  · have m : min (PyData.tuple (x.map intsD)).depth (PyData.tuple (y.map intsD)).depth ≤ (PyData.tuple (x.map intsD)).depth := Nat.min_le_left _ _
    omega
  · simp only [PyData.eqv, eqv_nest]
    exact h
/-- a tuple whose items are quiet is quiet -/
theorem quiet_items {a : Addr} {o : Obj} {items : Array Value} {n m : Nat} {Q : Bool → Shared → Prop} (ho : s.heap.get? a = some o) (hc : o.cls = .type "tuple") (hd : o.data = .seq items n)
    (hi : ∀ v ∈ items.toList, ∀ Q' : Bool → Shared → Prop, Q' true s → wpAny (model P w) A (eqIsQuiet m v) Q' E s) (h : Q true s) : wpAny (model P w) A (eqIsQuiet (m + 1) (.ref a)) Q E s := by
  have hT : s.TypeIs (.ref a) "tuple" := ⟨o, ho, hc⟩
  unfold eqIsQuiet
  refine wpAny_bind (wpAny_specialOf hT F.slot_tuple_eq.lookup ?_)
  show wpAny _ _ (isInstance (.ref a) (.type "tuple") >>= _) _ _ s
  refine wpAny_bind (wpAny_isInstance hT isSubtype_tuple_tuple ?_)
  simp only [Bool.not_true, Bool.false_eq_true, if_false]
  refine wpAny_bind (wpAny_seqItems ho hd (wpAny_bind ?_))
  show wpAny _ _ (forIn items _ _) _ _ s
  rw [← Array.forIn_toList]
  refine wpAny_forIn_list _ (fun left r s1 => r.1 = none ∧ s1 = s ∧ ∀ v ∈ left, v ∈ items.toList) _ ?_ ?_ _ _ ⟨rfl, rfl, fun _ z => z⟩
  · rintro v left r s1 ⟨hr, rfl, hall⟩
    refine wpAny_bind (hi v (hall v List.mem_cons_self) _ ?_)
    simp only [Bool.not_true, Bool.false_eq_true, if_false]
    exact wpAny_pure ⟨rfl, rfl, fun u z => hall u (List.mem_cons_of_mem _ z)⟩
  · rintro ⟨r1, r2⟩ s1 ⟨hr, rfl, _⟩
    have e : r1 = none := hr
    subst e
    exact wpAny_pure h
theorem all2_mem {α β : Type} {F : α → β → Prop} : ∀ {xs : List α} {ys : List β}, All2 F xs ys → ∀ y ∈ ys, ∃ x, F x y
  | _, _, .nil, _, h => by cases h
  | _, _, .cons h t, y, hy => by
    rcases List.mem_cons.mp hy with e | hy
    · subst e; exact ⟨_, h⟩
    · exact all2_mem t y hy
theorem items_byValue {is : List Int} {vs : List Value} (q : ItemsAre (intKind P w) is vs) : ∀ v ∈ vs, carriedByValue v = true := q.byValue
theorem nest_quiet {kss : List (List Int)} {a : Addr} {Q : Bool → Shared → Prop} (hk : NestIs P w s.heap kss a) (h : Q true s) : wpAny (model P w) A (eqIsQuiet 8 (.ref a)) Q E s := by
  obtain ⟨o, items, n, ho, hc, hd, hi⟩ := hk
  refine quiet_items (m := 7) ho hc hd (fun v hv Q' h' => ?_) h
  obtain ⟨is, b, rfl, o2, items2, n2, ho2, hc2, hd2, hi2⟩ := all2_mem hi v hv
  refine quiet_items (m := 6) ho2 hc2 hd2 (fun u hu Q2 h2 => ?_) h'
  rw [eqIsQuiet_byValue _ (items_byValue hi2 u hu)]
  exact wpAny_pure h2
def nestDraws (kss : List (List Int)) : Nat := (kss.map fun is => is.length + 1).sum + 1
theorem nest_hash {kss : List (List Int)} {a : Addr} {Q : Int → Shared → Prop} (hu : A.units + 8 < cLine) (hk : NestIs P w s.heap kss a) (h : Q (nestHash kss) { s with toks := s.toks + nestDraws kss }) :
    wpAny (model P w) A (pyHash (.ref a)) Q E s := by
  have hT := hk.ty
  obtain ⟨o, items, n, ho, _, hd, hi⟩ := hk
  have hu0 : A.units < cLine := by omega
  unfold pyHash
  first | unfold pyHashByItsType | skip
  first | refine wpAny_bind (wpAny_cRoomFor_or (.inr hu0) ?_) | skip
  refine wpAny_bind (wpAny_specialOf hT F.slot_tuple_hash.lookup ?_)
  show wpAny _ _ (if (some (Value.builtin "tuple.__hash__") == some Value.none) = true then _ else _) Q E s
  rw [if_neg (by rw [beq_builtin_none]; exact Bool.false_ne_true)]
  refine wpAny_bind (wpAny_specialOf hT F.slot_tuple_hash.lookup ?_)
  show wpAny _ _ (callSpecialIfBoundUnlessNone? (.ref a) "__hash__" _ >>= _) Q E s
  refine wpAny_bind (wpAny_callSpecialIfBoundUnlessNone?_slot hT F.slot_tuple_hash (wpAny_call_entry F.slot_tuple_hash hT F.entry_tuple_hash ?_ (F.args_tuple_hash_1 _)))
  show wpAny _ _ (Builtin.Tuple.tupleItemsOf (.ref a) >>= _) _ _ s
  refine wpAny_bind (wpAny_tupleItemsOf ho hd (wpAny_bind ?_))
  rw [← Array.forIn_toList]
  refine wpAny_forIn_list _
    (fun rest (b : Array Int) s1 => ∃ done left, kss = done ++ left ∧ All2 (fun (is : List Int) (v : Value) => ∃ b, v = .ref b ∧ IsTupleKey (intKind P w) s.heap is b) left rest ∧
      b.toList = done.map (fun is => reduceHash (Builtin.Tuple.tupleHashOf (is.map hashInt))) ∧ s1 = { s with toks := s.toks + (done.map fun is => is.length + 1).sum })
    _ ?_ ?_ _ _ ⟨[], kss, rfl, hi, rfl, rfl⟩
  · rintro x rest b s1 ⟨done, left, rfl, hl, hb, rfl⟩
    cases hl with
    | @cons is _ left' _ h1 hl' =>
      obtain ⟨c, rfl, q⟩ := h1
      refine wpAny_bind (wpAny_pyHash_tuple (knd := intKind P w) (s := { s with toks := s.toks + (done.map fun is => is.length + 1).sum }) ?room q ?_)
      case room => first | exact hu0 | (show _ < cLine; simp only [Around.in1]; omega) | omega
      first
        | exact wpAny_pure ⟨done ++ [is], left', by simp, hl', by simp [hb, tupleKeyHash, intKind], by simp [Nat.add_assoc]⟩
        | exact wpAny_bind (wpAny_pure (wpAny_pure ⟨done ++ [is], left', by simp, hl', by simp [hb, tupleKeyHash, intKind], by simp [Nat.add_assoc]⟩))
  · rintro b s1 ⟨done, left, rfl, hl, hb, rfl⟩
    cases hl
    rw [List.append_nil] at h
    show wpAny _ _ (retInt (Builtin.Tuple.tupleHashOf b.toList)) _ _ _
    rw [hb]
    refine wpAny_ret_mkInt ?_
    generalize hz : Builtin.Tuple.tupleHashOf (done.map fun is => reduceHash (Builtin.Tuple.tupleHashOf (is.map hashInt))) = z
    have hz' : nestHash done = reduceHash z := by rw [← hz]; rfl
    rw [hz'] at h
    unfold reduceHash at h
    show wpAny _ _ (if (decide (-(2 : Int) ^ 63 ≤ z) && decide (z < 2 ^ 63)) = true then _ else _) Q E _
    by_cases hr : (decide (-(2 : Int) ^ 63 ≤ z) && decide (z < 2 ^ 63)) = true
    · rw [if_pos hr]
      rw [if_pos hr] at h
      exact wpAny_pure (by simpa [nestDraws, Nat.add_assoc] using h)
    · rw [if_neg hr]
      rw [if_neg hr] at h
      exact wpAny_bind (wpAny_rule (wpAny_pure (by simpa [nestDraws, Nat.add_assoc] using h)))
end
def nestKind (P : Program) (w : World) : HeapKind P w (List (List Int)) where
  is := NestIs P w
  hash := nestHash
  draws := nestDraws
  room := fun A => A.units + 8 < cLine
  inj := fun hx hy => hx.inj hy
  keeps := fun x ho hd hs => x.keeps ho hd hs
  pyHash := fun hu hk h => nest_hash hu hk h
  eqBool := fun hu hx hy h => nest_eq hu hx hy h
  quiet := fun hk h => nest_quiet hk h
end Ev

set_option Elab.async false
set_option linter.all false
set_option maxRecDepth 100000
set_option maxHeartbeats 4000000
/-! Dicts by values; in, not in. -/
namespace Ev
open PySem L2

/-! ### tables of values -/
def dLook (kvs : List (D × D)) (k : D) : Option D := (kvs.find? fun p => decide (p.1 = k)).map (·.2)
def dPut (kvs : List (D × D)) (k v : D) : List (D × D) :=
  if (kvs.any fun p => decide (p.1 = k)) = true then kvs.map (fun p => if p.1 = k then (p.1, v) else p) else kvs ++ [(k, v)]
def dDrop (kvs : List (D × D)) (k : D) : List (D × D) := kvs.filter fun p => decide (p.1 ≠ k)
def key1 : D → Option Key
  | .int i => some (.inl i)
  | .str s => some (.inr s)
  | _ => none
theorem key1_eq {d : D} {k : Key} (h : key1 d = some k) : d = keyD k := by
  unfold key1 at h
  split at h <;> first | (cases h; rfl) | cases h
def keys1 : List D → Option (List Key)
  | [] => some []
  | x :: xs => match key1 x, keys1 xs with
    | some k, some ks => some (k :: ks)
    | _, _ => none
theorem keys1_eq : ∀ {ds : List D} {ks : List Key}, keys1 ds = some ks → ds = ks.map keyD
  | [], ks, h => by cases h; rfl
  | x :: xs, ks, h => by
    unfold keys1 at h
    split at h
    · rename_i k ks' q1 q2
      cases h
      rw [key1_eq q1, keys1_eq q2]
      rfl
    · cases h
def ints1 : List D → Option (List Int)
  | [] => some []
  | .int i :: xs => (ints1 xs).map (i :: ·)
  | _ :: _ => none
theorem ints1_eq : ∀ {ds : List D} {is : List Int}, ints1 ds = some is → ds = is.map D.int
  | [], is, h => by cases h; rfl
  | x :: xs, is, h => by
    cases x with
    | int i =>
      unfold ints1 at h
      cases q : ints1 xs with
      | none => rw [q] at h; cases h
      | some js =>
        rw [q] at h
        cases h
        rw [ints1_eq q]
        rfl
    | _ => cases h
theorem ints1_map : ∀ is : List Int, ints1 (is.map D.int) = some is
  | [] => rfl
  | i :: is => by simp [ints1, ints1_map is]
def nest1 : List D → Option (List (List Int))
  | [] => some []
  | .tup ys :: xs => match ints1 ys, nest1 xs with
    | some is, some r => some (is :: r)
    | _, _ => none
  | _ :: _ => none
theorem nest1_eq : ∀ {ds : List D} {kss : List (List Int)}, nest1 ds = some kss → ds = kss.map fun is => .tup (is.map D.int)
  | [], _, h => by cases h; rfl
  | x :: xs, kss, h => by
    cases x with
    | tup ys =>
      unfold nest1 at h
      split at h
      · rename_i is r q1 q2
        cases h
        rw [ints1_eq q1, nest1_eq q2]
        rfl
      · cases h
    | _ => cases h
/-- a key that such a dict may have -/
def keyOk : DK → D → Bool
  | .K, k => (key1 k).isSome
  | .T, .tup xs => (keys1 xs).isSome
  | .N, .tup xs => (nest1 xs).isSome
  | _, _ => false

section
variable {W : Wd} {ι : Nat → Addr} {n : Nat} {H H0 : Hp} {S : Store}
theorem look_K : ∀ {kvs : List (D × D)} {kv : List (Key × V)} (k : Key), All2 (fun (p : D × D) (q : Key × V) => p.1 = keyD q.1 ∧ Rep ι n H p.2 q.2) kvs kv →
    (∀ d, dLook kvs (keyD k) = some d → ∃ v, valV kv k = some v ∧ Rep ι n H d v) ∧ (dLook kvs (keyD k) = none → valV kv k = none)
  | _, _, k, .nil => ⟨fun d h => (by cases h), fun _ => rfl⟩
  | p :: kvs, q :: kv, k, .cons ⟨h1, h2⟩ t => by
    have ih := look_K k t
    by_cases e : q.1 = k
    · have e' : p.1 = keyD k := by rw [h1, e]
      have a : dLook (p :: kvs) (keyD k) = some p.2 := by simp [dLook, List.find?_cons, e']
      rw [a, valV_pos e]
      exact ⟨fun d h => ⟨q.2, rfl, by cases h; exact h2⟩, fun h => by cases h⟩
    · have e' : ¬ p.1 = keyD k := fun z => e (keyD_inj (h1.symm.trans z))
      have a : dLook (p :: kvs) (keyD k) = dLook kvs (keyD k) := by simp [dLook, List.find?_cons, e']
      rw [a, valV_neg e]
      exact ih
theorem look_T : ∀ {kvs : List (D × D)} {kv : List (List Key × V)} (k : List Key), All2 (fun (p : D × D) (q : List Key × V) => p.1 = .tup (q.1.map keyD) ∧ Rep ι n H p.2 q.2) kvs kv →
    (∀ d, dLook kvs (.tup (k.map keyD)) = some d → ∃ v, valV kv k = some v ∧ Rep ι n H d v) ∧ (dLook kvs (.tup (k.map keyD)) = none → valV kv k = none)
  | _, _, k, .nil => ⟨fun d h => (by cases h), fun _ => rfl⟩
  | p :: kvs, q :: kv, k, .cons ⟨h1, h2⟩ t => by
    have ih := look_T k t
    by_cases e : q.1 = k
    · have e' : p.1 = .tup (k.map keyD) := by rw [h1, e]
      have a : dLook (p :: kvs) (.tup (k.map keyD)) = some p.2 := by simp [dLook, List.find?_cons, e']
      rw [a, valV_pos e]
      exact ⟨fun d h => ⟨q.2, rfl, by cases h; exact h2⟩, fun h => by cases h⟩
    · have e' : ¬ p.1 = .tup (k.map keyD) := fun z => e (by
        have z2 := h1.symm.trans z
        injection z2 with z3
        exact List.map_inj_right (fun _ _ => keyD_inj) |>.mp z3)
      have a : dLook (p :: kvs) (.tup (k.map keyD)) = dLook kvs (.tup (k.map keyD)) := by simp [dLook, List.find?_cons, e']
      rw [a, valV_neg e]
      exact ih
theorem rep_key {k : Key} {v : V} (h : Rep ι n H (keyD k) v) : v = kV k := by
  cases k <;> (cases h; rfl)
theorem reps_keys : ∀ {ks : List Key} {vs : List V}, Reps ι n H (ks.map keyD) vs → vs = ks.map kV
  | [], _, h => by cases h; rfl
  | k :: ks, _, h => by
    cases h with
    | cons h1 h2 => rw [rep_key h1, reps_keys h2]; rfl
theorem reps_ints : ∀ {is : List Int} {vs : List V}, Reps ι n H (is.map D.int) vs → vs = is.map V.int
  | [], _, h => by cases h; rfl
  | k :: ks, _, h => by
    cases h with
    | cons h1 h2 => cases h1; rw [reps_ints h2]; rfl
theorem ints_reps : ∀ {is : List Int}, Reps ι n H (is.map D.int) (is.map V.int)
  | [] => .nil
  | _ :: _ => .cons (.int _) ints_reps
theorem rep_nest {kss : List (List Int)} {v : V} (h : Rep ι n H (nestD kss) v) : ∃ a, v = .ref a ∧ NestAt H kss a := by
  unfold nestD at h
  cases h with
  | @tup xs a vs h1 h2 =>
    refine ⟨a, rfl, ?_⟩
    have all : ∀ {ks : List (List Int)} {ws : List V}, Reps ι n H (ks.map fun is => .tup (is.map D.int)) ws → ∃ as : List Addr, ws = as.map V.ref ∧ All2 (fun is b => H b = some (.tup (is.map V.int))) ks as := by
      intro ks
      induction ks with
      | nil => intro ws q; cases q; exact ⟨[], rfl, .nil⟩
      | cons k ks ih =>
        intro ws q
        cases q with
        | cons q1 q2 =>
          obtain ⟨as, e1, e2⟩ := ih q2
          cases q1 with
          | @tup ys b us r1 r2 =>
            rw [reps_ints r2] at r1
            exact ⟨b :: as, by rw [e1]; rfl, .cons r1 e2⟩
    obtain ⟨as, e, q⟩ := all h2
    rw [e] at h1
    exact ⟨as, h1, q⟩
theorem keyOk_N {k : D} (h : keyOk .N k = true) : ∃ kss, k = nestD kss := by
  cases k with
  | tup xs =>
    obtain ⟨kss, q⟩ := Option.isSome_iff_exists.mp (show (nest1 xs).isSome = true from h)
    exact ⟨kss, by rw [nest1_eq q]; rfl⟩
  | _ => cases h
theorem keyOk_T {k : D} (h : keyOk .T k = true) : ∃ ks : List Key, k = .tup (ks.map keyD) := by
  cases k with
  | tup xs =>
    obtain ⟨kss, q⟩ := Option.isSome_iff_exists.mp (show (keys1 xs).isSome = true from h)
    exact ⟨kss, by rw [keys1_eq q]⟩
  | _ => cases h
theorem keyOk_K {k : D} (h : keyOk .K k = true) : ∃ q : Key, k = keyD q := by
  obtain ⟨q, e⟩ := Option.isSome_iff_exists.mp (show (key1 k).isSome = true from h)
  exact ⟨q, key1_eq e⟩
theorem nestD_inj {a b : List (List Int)} (e : nestD a = nestD b) : a = b := by
  unfold nestD at e
  injection e with e
  refine List.map_inj_right (fun x y q => ?_) |>.mp e
  injection q with q
  exact List.map_inj_right (fun _ _ z => by injection z) |>.mp q

/-! ### what a dict tells -/
/-- what the dict at a holds at the key y, of any kind -/
def GetD (H : Hp) (a : Addr) (y : V) (r : Option V) : Prop :=
  DGet H a y r ∨ ∃ (xs : List (List (List Int) × Addr)) (kss : List (List Int)) (b : Addr), H a = some (.ext (dictN a xs)) ∧ (xs.map (·.1)).Nodup ∧ (a == sysModules) = false ∧ (∀ q ∈ xs, NestAt H q.1 q.2) ∧
    y = .ref b ∧ NestAt H kss b ∧ r = if kss ∈ xs.map (·.1) then some (.bl true) else none
/-- a dict that is read -/
def DicRd (ι : Nat → Addr) (n : Nat) (H : Hp) (a : Addr) : DK → List (D × D) → Prop
  | .K, kvs => ∃ kv : List (Key × V), Rd H a (.dK kv) ∧ All2 (fun (p : D × D) (q : Key × V) => p.1 = keyD q.1 ∧ Rep ι n H p.2 q.2) kvs kv
  | .T, kvs => DicAt ι n H a .T kvs
  | .N, kvs => DicAt ι n H a .N kvs
theorem DicAt.rd {a : Addr} {k : DK} {kvs : List (D × D)} (h : DicAt ι n H a k kvs) : DicRd ι n H a k kvs := by
  cases k with
  | K => obtain ⟨kv, e, r⟩ := h; exact ⟨kv, .inl e, r⟩
  | T => exact h
  | N => exact h
theorem getD_ok {a : Addr} {k : DK} {kvs : List (D × D)} {y : D} {vy : V} (h : DicRd ι n H a k kvs) (hk : keyOk k y = true) (ry : Rep ι n H y vy) :
    (∀ d, dLook kvs y = some d → ∃ v, GetD H a vy (some v) ∧ Rep ι n H d v) ∧ (dLook kvs y = none → GetD H a vy none) := by
  cases k with
  | K =>
    obtain ⟨q, rfl⟩ := keyOk_K hk
    obtain ⟨kv, e, r⟩ := h
    have ev := rep_key ry
    subst ev
    have l := look_K q r
    refine ⟨fun d hd => ?_, fun hd => .inl (.inl ⟨kv, q, e, rfl, (l.2 hd).symm⟩)⟩
    obtain ⟨v, h1, h2⟩ := l.1 d hd
    exact ⟨v, .inl (.inl ⟨kv, q, e, rfl, h1.symm⟩), h2⟩
  | T =>
    obtain ⟨q, rfl⟩ := keyOk_T hk
    obtain ⟨kv, e, r⟩ := h
    cases ry with
    | @tup _ b vs e1 e2 =>
      rw [reps_keys e2] at e1
      have l := look_T q r
      refine ⟨fun d hd => ?_, fun hd => .inl (.inr ⟨kv, q, b, .inl e, rfl, e1, (l.2 hd).symm⟩)⟩
      obtain ⟨v, h1, h2⟩ := l.1 d hd
      exact ⟨v, .inl (.inr ⟨kv, q, b, .inl e, rfl, e1, h1.symm⟩), h2⟩
  | N =>
    obtain ⟨kss, rfl⟩ := keyOk_N hk
    obtain ⟨xs, e, nd, hz, hs, r⟩ := h
    obtain ⟨b, rfl, nb⟩ := rep_nest ry
    have all : ∀ {ps : List (D × D)} {zs : List (List (List Int) × Addr)}, All2 (fun (p : D × D) (q : List (List Int) × Addr) => p.1 = nestD q.1 ∧ p.2 = .bl true ∧ NestAt H q.1 q.2) ps zs →
        (∀ q ∈ zs, NestAt H q.1 q.2) ∧ dLook ps (nestD kss) = if kss ∈ zs.map (·.1) then some (.bl true) else none := by
      intro ps zs q
      induction q with
      | nil => exact ⟨fun q hq => (by cases hq), rfl⟩
      | @cons p z ps zs h t ih =>
        obtain ⟨h1, h2, h3⟩ := h
        refine ⟨fun q hq => ?_, ?_⟩
        · rcases List.mem_cons.mp hq with e | hq
          · subst e; exact h3
          · exact ih.1 q hq
        · by_cases e : z.1 = kss
          · have e' : p.1 = nestD kss := by rw [h1, e]
            have : dLook (p :: ps) (nestD kss) = some p.2 := by simp [dLook, List.find?_cons, e']
            rw [this, h2]
            simp [e]
          · have e' : ¬ p.1 = nestD kss := fun z' => e (nestD_inj (h1.symm.trans z'))
            have : dLook (p :: ps) (nestD kss) = dLook ps (nestD kss) := by simp [dLook, List.find?_cons, e']
            rw [this, ih.2]
            have e2 : ¬ kss = z.1 := fun z' => e z'.symm
            rw [List.map_cons]
            by_cases hm : kss ∈ zs.map (·.1)
            · rw [if_pos hm, if_pos (List.mem_cons_of_mem _ hm)]
            · rw [if_neg hm, if_neg fun z' => (List.mem_cons.mp z').elim e2 hm]
    obtain ⟨a1, a2⟩ := all r
    have g : ∀ o : Option V, (o = if kss ∈ xs.map (·.1) then some (.bl true) else none) → GetD H a (.ref b) o := fun o ho => .inr ⟨xs, kss, b, e, nd, hs, a1, rfl, nb, ho⟩
    rw [a2]
    by_cases hm : kss ∈ xs.map (·.1)
    · rw [if_pos hm]
      exact ⟨fun d hd => ⟨.bl true, g _ (by rw [if_pos hm]), by cases hd; exact .bl true⟩, fun hd => by cases hd⟩
    · rw [if_neg hm]
      exact ⟨fun d hd => (by cases hd), fun _ => g _ (by rw [if_neg hm])⟩
end
/-! ### the machine's rules for dicts of kind N -/
section
variable {X : Cx} {pins : List (Addr × Obj)} {σ : St} {H : Hp} {s : Shared} {a : Addr}
theorem nest_is (I : Inv X pins σ H s) {kss : List (List Int)} {b : Addr} (h : NestAt H kss b) : NestIs X.prog X.w s.heap kss b := by
  obtain ⟨as, e, r⟩ := h
  obtain ⟨_, its, rv, o, ho, hc, m, hd⟩ := I.hok b _ e
  refine ⟨o, its.toArray, m, ho, hc, hd, ?_⟩
  have all : ∀ {ks : List (List Int)} {bs : List Addr} {us : List Value}, All2 (fun is b => H b = some (.tup (is.map V.int))) ks bs → Vals (bs.map V.ref) us →
      All2 (fun (is : List Int) (v : Value) => ∃ b, v = .ref b ∧ IsTupleKey (intKind X.prog X.w) s.heap is b) ks us := by
    intro ks bs us q
    induction q generalizing us with
    | nil => intro r; cases r; exact .nil
    | @cons is b ks bs h t ih =>
      intro r
      cases r with
      | @cons _ u _ us' r1 r2 =>
        refine .cons ⟨b, r1, ?_⟩ (ih r2)
        obtain ⟨_, its', rv', o', ho', hc', m', hd'⟩ := I.hok b _ h
        refine ⟨o', its'.toArray, m', ho', hc', hd', ?_⟩
        have intsI : ∀ {js : List Int} {ws : List Value}, Vals (js.map V.int) ws → ItemsAre (intKind X.prog X.w) js ws := by
          intro js
          induction js with
          | nil => intro ws q; cases q; exact .nil
          | cons j js ih =>
            intro ws q
            cases q with
            | cons q1 q2 =>
              obtain ⟨t, rfl⟩ := q1
              exact .cons (by simp [intKind, Value.isInt]) (ih q2)
        simpa using intsI rv'
  simpa using all r rv
theorem dictN_of (I : Inv X pins σ H s) {xs : List (List (List Int) × Addr)} (e : H a = some (.ext (dictN a xs))) (nd : (xs.map (·.1)).Nodup) (hn : ∀ q ∈ xs, NestAt H q.1 q.2) :
    s.heap.DictOfH (nestKind X.prog X.w) a (xs.map fun x => (x.1, x.2, Value.bool true)) := by
  obtain ⟨⟨o, es, ep, ho, hx, hd, he⟩, _⟩ := I.hok a _ e
  refine ⟨o, es, ep, ho, hx, hd, ?_, fun x hx => ?_, ?_⟩
  · rw [he, List.map_map]; rfl
  · obtain ⟨q, hq, rfl⟩ := List.mem_map.mp hx
    exact nest_is I (hn q hq)
  · rw [List.map_map]; exact nd
theorem atKey_N {xs : List (List (List Int) × Addr)} {kss : List (List Int)} : (atKey (xs.map fun x => (x.1, x.2, Value.bool true)) kss).isSome = decide (kss ∈ xs.map (·.1)) := by
  induction xs with
  | nil => rfl
  | cons x xs ih =>
    unfold atKey at ih ⊢
    rw [List.map_cons, List.find?_cons]
    by_cases e : x.1 = kss
    · simp [e]
    · simp only [decide_eq_false e]
      rw [ih]
      have e2 : ¬ kss = x.1 := fun z => e z.symm
      simp [e2]
/-- y in d, whatever its kind -/
def rInDic : R2 := fun x y H Q => ∃ a o, y = .ref a ∧ GetD H a x o ∧ Q (.bl o.isSome) H
def rNotInDic : R2 := fun x y H Q => ∃ a o, y = .ref a ∧ GetD H a x o ∧ Q (.bl (!o.isSome)) H
theorem op_inDic (hu : X.A.units + 16 < cLine) : OpR X (compareOp .In) rInDic := by
  intro pins s σ H x y v u Q I rx ry h
  obtain ⟨a, o, rfl, g, q⟩ := h
  cases ry
  rcases g with g | ⟨xs, kss, b, e, nd, hs, hn, rfl, nb, rfl⟩
  · exact d_in (by omega) I g rx fun s' I' => ⟨.bl _, H, I', rfl, q⟩
  · cases rx
    refine wpAny_in_heap (knd := nestKind X.prog X.w) (by show X.A.units + 1 + 8 < cLine; omega) (nest_is I nb) hs (dictN_of I e nd hn) ?_
    rw [atKey_N]
    refine ⟨.bl _, H, I.tok _, rfl, ?_⟩
    by_cases hm : kss ∈ xs.map (·.1)
    · rw [if_pos hm] at q; simpa [hm] using q
    · rw [if_neg hm] at q; simpa [hm] using q
theorem op_notInDic (hu : X.A.units + 16 < cLine) : OpR X (compareOp .NotIn) rNotInDic := by
  intro pins s σ H x y v u Q I rx ry h
  obtain ⟨a, o, rfl, g, q⟩ := h
  cases ry
  rcases g with g | ⟨xs, kss, b, e, nd, hs, hn, rfl, nb, rfl⟩
  · exact d_notIn (by omega) I g rx fun s' I' => ⟨.bl _, H, I', rfl, q⟩
  · cases rx
    refine PyProof.Rows.wpAny_notIn_heap (knd := nestKind X.prog X.w) (by show X.A.units + 1 + 8 < cLine; omega) (nest_is I nb) hs (dictN_of I e nd hn) ?_
    rw [atKey_N]
    refine ⟨.bl _, H, I.tok _, rfl, ?_⟩
    by_cases hm : kss ∈ xs.map (·.1)
    · rw [if_pos hm] at q; simpa [hm] using q
    · rw [if_neg hm] at q; simpa [hm] using q
end
end Ev

set_option Elab.async false
set_option linter.all false
set_option maxRecDepth 100000
set_option maxHeartbeats 4000000
/-! in, not in, subscripts, slices. -/
namespace Ev
open PySem L2

/-- a dict of the store, of a slot, just made -/
def R.dicR (S : Store) : R → Option (DK × List (D × D))
  | .v (.ob h) => (match S[h]? with
    | some (.dic k kvs) => some (k, kvs)
    | some (.lck kvs) => some (.K, kvs)
    | _ => none)
  | .d k kvs => some (k, kvs)
  | .bd k kvs => some (k, kvs)
  | _ => none
/-- the items of a tuple -/
def R.tseq : R → Option (List D)
  | .v (.tup xs) => some xs
  | .c xs => some xs
  | _ => none
section
variable {W : Wd} {ι : Nat → Addr} {n : Nat} {H H0 : Hp} {S : Store}
theorem dic_rep {r : R} {v : V} {k : DK} {kvs : List (D × D)} (Z : RSt W ι H S) (h : RR W H0 ι S.length H r v) (e : r.dicR S = some (k, kvs)) : ∃ a, v = .ref a ∧ DicRd ι S.length H a k kvs := by
  cases r with
  | v d =>
    cases d with
    | ob m =>
      cases h with
      | ob hm =>
        unfold R.dicR at e
        simp only at e
        split at e
        · rename_i k' kvs' q
          cases e
          exact ⟨_, rfl, DicAt.rd (Z.at_ m _ q)⟩
        · rename_i kvs' q
          cases e
          obtain ⟨o, kv, e1, e2⟩ := Z.at_ m _ q
          exact ⟨_, rfl, kv, .inr ⟨o, e1⟩, e2⟩
        · cases e
    | _ => cases e
  | d k' kvs' =>
    cases e
    obtain ⟨a, e, e1, _⟩ := h
    exact ⟨a, e, e1.rd⟩
  | bd k' kvs' =>
    cases e
    obtain ⟨a, e, e1, _⟩ := h
    exact ⟨a, e, e1.rd⟩
  | _ => cases e
theorem flatOf_rep {d : D} {v w : V} (h : Rep ι n H d v) (e : flatOf d = some w) : v = w ∧ flatV w = true := by
  cases d <;> first | (cases e; cases h; exact ⟨rfl, rfl⟩) | cases e
theorem flatsOf_rep : ∀ {ds : List D} {vs ws : List V}, Reps ι n H ds vs → flatsOf ds = some ws → vs = ws
  | [], _, _, h, e => by cases e; cases h; rfl
  | d :: ds, _, _, h, e => by
    unfold flatsOf at e
    split at e
    · rename_i w ws q1 q2
      cases e
      cases h with
      | cons h1 h2 => rw [(flatOf_rep h1 q1).1, flatsOf_rep h2 q2]
    · cases e
theorem flatOf_flat {d : D} {w : V} (e : flatOf d = some w) : flatV w = true := by
  cases d <;> first | (cases e; rfl) | cases e
theorem flatsOf_flat : ∀ {ds : List D} {ws : List V}, flatsOf ds = some ws → ws.all flatV = true
  | [], _, e => by cases e; rfl
  | d :: ds, _, e => by
    unfold flatsOf at e
    split at e
    · rename_i w ws q1 q2
      cases e
      simp [flatOf_flat q1, flatsOf_flat q2]
    · cases e
theorem flat_eqv {d e : D} {v w : V} (hd : flatOf d = some v) (he : flatOf e = some w) : eqV v w = PyData.eqv (toPD d) (toPD e) := by
  cases d <;> cases e <;> simp only [flatOf, Option.some.injEq, reduceCtorEq] at hd he <;> subst hd <;> subst he <;> simp [eqV, toPD, PyData.eqv]
theorem flat_any {d : D} {v : V} (hd : flatOf d = some v) : ∀ {ds : List D} {ws : List V}, flatsOf ds = some ws → inV v ws = (toPDs ds).any fun z => PyData.eqv z (toPD d)
  | [], _, e => by cases e; rfl
  | x :: ds, _, e => by
    unfold flatsOf at e
    split at e
    · rename_i w ws q1 q2
      cases e
      have ih := flat_any hd q2
      unfold inV at ih ⊢
      rw [toPDs, List.any_cons, List.any_cons, ih, flat_eqv q1 hd]
    · cases e
/-- whether something stands in a dict, a list, a tuple -/
def inR (S : Store) (x y : R) : Option Bool :=
  match y.dicR S with
  | some (k, kvs) => (match x.flat with
    | some key => if keyOk k key = true then some (dLook kvs key).isSome else none
    | none => none)
  | none => match y.lseq S with
    | some xs => (match x.pd S with
      | some p => if okNs 60 xs = true then some ((toPDs xs).any fun z => PyData.eqv z p) else none
      | none => none)
    | none => match y.tseq, x.flat with
      | some xs, some d => if (flatOf d).isSome && (flatsOf xs).isSome then some ((toPDs xs).any fun z => PyData.eqv z (toPD d)) else none
      | _, _ => none
def gIn (S : Store) (x y : R) : Option R := (inR S x y).map fun b => .v (.bl b)
def gNotIn (S : Store) (x y : R) : Option R := (inR S x y).map fun b => .v (.bl (!b))
def rInA (K : PySem.W.Frag) : R2 := fun x y H Q => rInDic x y H Q ∨ (rInD K x y H Q ∨ rIn K false x y H Q)
def rNotInA (K : PySem.W.Frag) : R2 := fun x y H Q => rNotInDic x y H Q ∨ (rNotInD K x y H Q ∨ rIn K true x y H Q)
theorem op_inA {X : Cx} (hu : X.A.units + 65 < cLine) : OpR X (compareOp .In) (rInA X.K) := OpR.or (op_inDic (by omega)) (OpR.or (op_inD hu) op_in_seq)
theorem op_notInA {X : Cx} (hu : X.A.units + 65 < cLine) : OpR X (compareOp .NotIn) (rNotInA X.K) := OpR.or (op_notInDic (by omega)) (OpR.or (op_notInD hu) op_notIn_seq)
/-- a written tuple or one of the heap, of flat things -/
theorem tseq_rep {r : R} {v : V} {xs : List D} {ws : List V} (h : RR W H0 ι n H r v) (e : r.tseq = some xs) (hf : flatsOf xs = some ws) : ∃ a, v = .ref a ∧ SqT W.K H a ws := by
  cases r with
  | v d =>
    cases d with
    | tup ys =>
      cases e
      cases h with
      | tup h1 h2 =>
        rw [flatsOf_rep h2 hf] at h1
        exact ⟨_, rfl, .of h1⟩
    | _ => cases e
  | c ys =>
    cases e
    obtain ⟨a, vs, rfl, e1, e2⟩ := h
    rw [hf] at e1
    cases e1
    exact ⟨a, rfl, e2 H⟩
  | _ => cases e
theorem inR_sim {x y : R} {vx vy : V} {Ha Hb : Hp} {b : Bool} (Z : RSt W ι H S) (hx : RR W Ha ι S.length H x vx) (hy : RR W Hb ι S.length H y vy) (e : inR S x y = some b) :
    (∃ a o, vy = .ref a ∧ GetD H a vx o ∧ o.isSome = b) ∨
    (∃ d ds, Dp W.K H vx d ∧ Dp W.K H vy (.list ds) ∧ SeqAt.shaped d = true ∧ SeqAt.shaped (.list ds) = true ∧ (ds.any fun z => PyData.eqv z d) = b) ∨
    (∃ p xs, vy = .ref p ∧ SqT W.K H p xs ∧ flatV vx = true ∧ xs.all flatV = true ∧ inV vx xs = b) := by
  unfold inR at e
  cases q : y.dicR S with
  | some kk =>
    obtain ⟨k, kvs⟩ := kk
    rw [q] at e
    simp only at e
    cases qx : x.flat with
    | none => rw [qx] at e; cases e
    | some key =>
      rw [qx] at e
      simp only at e
      by_cases hk : keyOk k key = true
      · rw [if_pos hk] at e
        obtain ⟨a, rfl, hd⟩ := dic_rep Z hy q
        have g := getD_ok hd hk (flat_rep hx qx)
        cases ql : dLook kvs key with
        | none =>
          rw [ql] at e
          cases e
          exact .inl ⟨a, none, rfl, g.2 ql, rfl⟩
        | some d =>
          rw [ql] at e
          cases e
          obtain ⟨v, h1, _⟩ := g.1 d ql
          exact .inl ⟨a, some v, rfl, h1, rfl⟩
      · rw [if_neg hk] at e; cases e
  | none =>
    rw [q] at e
    simp only at e
    cases ql : y.lseq S with
    | some xs =>
      rw [ql] at e
      simp only at e
      cases qp : x.pd S with
      | none => rw [qp] at e; cases e
      | some p =>
        rw [qp] at e
        simp only at e
        by_cases hk : okNs 60 xs = true
        · rw [if_pos hk] at e
          cases e
          have d1 := pd_dp (K := W.K) Z hx qp
          obtain ⟨a, vs, rfl, e1, e2⟩ := lseq_rep Z hy ql
          exact .inr (.inl ⟨p, toPDs xs, d1.1, .lst (.inl e1) (Reps.dp 60 xs vs hk e2), d1.2, shaped_list hk, rfl⟩)
        · rw [if_neg hk] at e; cases e
    | none =>
      rw [ql] at e
      simp only at e
      split at e
      · rename_i xs d q1 q2
        split at e
        · rename_i c
          cases e
          obtain ⟨c1, c2⟩ := Bool.and_eq_true_iff.mp c
          obtain ⟨w, h1⟩ := Option.isSome_iff_exists.mp c1
          obtain ⟨ws, h2⟩ := Option.isSome_iff_exists.mp c2
          obtain ⟨a, rfl, h3⟩ := tseq_rep hy q1 h2
          obtain ⟨rfl, h4⟩ := flatOf_rep (flat_rep hx q2) h1
          exact .inr (.inr ⟨a, ws, rfl, h3, h4, flatsOf_flat h2, flat_any h1 h2⟩)
        · cases e
      · cases e
theorem sim_in : SimOp W (rInA W.K) gIn := by
  intro H ι S Ha Hb x y z vx vy Z hx hy e Q hQ
  unfold gIn at e
  cases q : inR S x y with
  | none => rw [q] at e; cases e
  | some b =>
    rw [q] at e
    cases e
    have fin := hQ (.bl b) H Z .refl (.bl b)
    rcases inR_sim Z hx hy q with ⟨a, o, h1, h2, h3⟩ | ⟨d, ds, h1, h2, h3, h4, h5⟩ | ⟨p, xs, h1, h2, h3, h4, h5⟩
    · exact .inl ⟨a, o, h1, h2, by rw [h3]; exact fin⟩
    · exact .inr (.inl ⟨d, ds, h1, h2, h3, h4, by rw [h5]; exact fin⟩)
    · exact .inr (.inr ⟨p, xs, h1, .inr h2, h3, h4, by rw [h5]; exact fin⟩)
theorem sim_notIn : SimOp W (rNotInA W.K) gNotIn := by
  intro H ι S Ha Hb x y z vx vy Z hx hy e Q hQ
  unfold gNotIn at e
  cases q : inR S x y with
  | none => rw [q] at e; cases e
  | some b =>
    rw [q] at e
    cases e
    have fin := hQ (.bl (!b)) H Z .refl (.bl (!b))
    rcases inR_sim Z hx hy q with ⟨a, o, h1, h2, h3⟩ | ⟨d, ds, h1, h2, h3, h4, h5⟩ | ⟨p, xs, h1, h2, h3, h4, h5⟩
    · exact .inl ⟨a, o, h1, h2, by rw [h3]; exact fin⟩
    · exact .inr (.inl ⟨d, ds, h1, h2, h3, h4, by rw [h5]; exact fin⟩)
    · exact .inr (.inr ⟨p, xs, h1, .inr h2, h3, h4, by rw [h5]; exact fin⟩)

/-! ### o[i] -/
def gIx (S : Store) (x y : R) : Option R :=
  match x.dicR S with
  | some (k, kvs) => (match y.flat with
    | some key => if keyOk k key && decide (k ≠ .N) then (dLook kvs key).map .v else none
    | none => none)
  | none => match x.seq S, y.int with
    | some xs, some i => (atI xs i).map .v
    | _, _ => none
theorem reps_atI {ds : List D} {vs : List V} {i : Int} {d : D} (h : Reps ι n H ds vs) (e : atI ds i = some d) : ∃ v, atI vs i = some v ∧ Rep ι n H d v := by
  unfold atI at e ⊢
  rw [← h.length]
  cases q : ixN ds.length i with
  | none => rw [q] at e; cases e
  | some j =>
    rw [q] at e
    exact h.get e
/-- .. of a sequence; of a dict -/
def tIxA (K : PySem.W.Frag) (ta tb : TE) : TE := fun σ H Q => tOp (fun x y H Q => rIxL K x y H Q ∨ rIxT K x y H Q) ta tb σ H Q ∨ tDGet ta tb σ H Q
theorem PE.or {X : Cx} {e : Expr} {t u : TE} (h : PE X e t) (h' : PE X e u) : PE X e (fun σ H Q => t σ H Q ∨ u σ H Q) :=
  ⟨fun pins s σ H Q I q => q.elim (h.run pins s σ H Q I) (h'.run pins s σ H Q I)⟩
theorem pe_ixA {X : Cx} {a b : Expr} {ta tb : TE} {pos : Pos} (hu : X.A.units + 1 < cLine) (ha : PE X a ta) (hb : PE X b tb) (hs : NoSl b) : PE X (.Subscript a b pos) (tIxA X.K ta tb) :=
  PE.or (pe_ix (IxR.or ix_list ix_tup) ha hb hs) (pe_dget hu ha hb hs)
theorem dget_of {a : Addr} {k : DK} {kvs : List (D × D)} {y d : D} {vy : V} (h : DicRd ι n H a k kvs) (hk : keyOk k y = true) (hN : k ≠ .N) (ry : Rep ι n H y vy) (e : dLook kvs y = some d) : ∃ v, DGet H a vy (some v) ∧ Rep ι n H d v := by
  obtain ⟨v, g, r⟩ := (getD_ok h hk ry).1 d e
  rcases g with g | ⟨xs, kss, b, e1, _⟩
  · exact ⟨v, g, r⟩
  · exfalso
    cases k with
    | K => obtain ⟨kv, e2 | ⟨o, e2⟩, _⟩ := h <;> (rw [e2] at e1; cases e1)
    | T => obtain ⟨kv, e2, _⟩ := h; rw [e2] at e1; cases e1
    | N => exact hN rfl
theorem dget_none {a : Addr} {k : DK} {kvs : List (D × D)} {y : D} {vy : V} (h : DicRd ι n H a k kvs) (hk : keyOk k y = true) (hN : k ≠ .N) (ry : Rep ι n H y vy) (e : dLook kvs y = none) : DGet H a vy none := by
  have g := (getD_ok h hk ry).2 e
  rcases g with g | ⟨xs, kss, b, e1, _⟩
  · exact g
  · exfalso
    cases k with
    | K => obtain ⟨kv, e2 | ⟨o, e2⟩, _⟩ := h <;> (rw [e2] at e1; cases e1)
    | T => obtain ⟨kv, e2, _⟩ := h; rw [e2] at e1; cases e1
    | N => exact hN rfl
theorem sim_ix {ta tb : TE} {fa fb : E} (ha : SimE W ta fa) (hb : SimE W tb fb) : SimE W (tIxA W.K ta tb) (eBin gIx fa fb) := by
  intro σ H ι ρ S H0 z S' Z N e Q hQ
  obtain ⟨x, S1, e1, e⟩ := bnd_eq e
  obtain ⟨y, S2, e2, e⟩ := bnd_eq e
  cases q : gIx S2 x y with
  | none => rw [q] at e; cases e
  | some z' =>
    rw [q] at e
    cases e
    unfold gIx at q
    cases qd : x.dicR S' with
    | some kk =>
      obtain ⟨k, kvs⟩ := kk
      rw [qd] at q
      simp only at q
      refine .inr (ha.then Z N e1 fun v1 H1 ι1 Z1 X1 N1 R1 => hb.then Z1 N1 e2 fun v2 H2 ι2 Z2 X2 N2 R2 => ?_)
      cases qy : y.flat with
      | none => rw [qy] at q; cases q
      | some key =>
        rw [qy] at q
        simp only at q
        split at q
        · rename_i c
          obtain ⟨c1, c2⟩ := Bool.and_eq_true_iff.mp c
          cases ql : dLook kvs key with
          | none => rw [ql] at q; cases q
          | some d =>
            rw [ql] at q
            cases q
            obtain ⟨a, rfl, hd⟩ := dic_rep Z2 (R1.ext X2 Z1) qd
            obtain ⟨v, g, r⟩ := dget_of hd c1 (of_decide_eq_true c2) (flat_rep R2 qy) ql
            exact ⟨a, v, rfl, g, hQ v H2 ι2 Z2 (X1.trans X2 Z1) r⟩
        · cases q
    | none =>
      rw [qd] at q
      simp only at q
      refine .inl (ha.then Z N e1 fun v1 H1 ι1 Z1 X1 N1 R1 => hb.then Z1 N1 e2 fun v2 H2 ι2 Z2 X2 N2 R2 => ?_)
      split at q
      · rename_i xs i q1 q2
        have ey := int_eq q2
        subst ey
        cases R2
        cases qa : atI xs i with
        | none => rw [qa] at q; cases q
        | some d =>
          rw [qa] at q
          cases q
          obtain ⟨a, vs, rfl, h1, h2⟩ := seq_rep Z2 (R1.ext X2 Z1) q1
          obtain ⟨v, h3, h4⟩ := reps_atI h2 qa
          have fin := hQ v H2 ι2 Z2 (X1.trans X2 Z1) h4
          rcases h1 with h1 | h1
          · exact .inl ⟨a, vs, i, v, rfl, rfl, .inl h1, h3, fin⟩
          · exact .inr ⟨a, vs, i, v, rfl, rfl, .of h1, h3, fin⟩
      · cases q

/-! ### o[a:b] -/
def cutD (xs : List D) (lo hi : Option Int) : List D := (xs.drop (HT.sIx xs.length 0 lo)).take (HT.sIx xs.length xs.length hi - HT.sIx xs.length 0 lo)
theorem reps_cut {ds : List D} {vs : List V} (h : Reps ι n H ds vs) (lo hi : Option Int) : Reps ι n H (cutD ds lo hi) (cutV vs lo hi) := by
  unfold cutD cutV
  rw [h.length]
  exact (h.drop _).take _
theorem cutV_whole {vs : List V} {lo hi : Option Int} (h : HT.sIx vs.length 0 lo = 0 ∧ HT.sIx vs.length vs.length hi = vs.length) : cutV vs lo hi = vs := by
  unfold cutV
  rw [h.1, h.2]
  simp
def gSl (S : Store) (x : R) (lo hi : Option Int) : Option R :=
  match x with
  | .v (.tup xs) => some (.v (.tup (cutD xs lo hi)))
  | x => match x.lseq S with
    | some xs => some (.l (cutD xs lo hi))
    | none => none
def rSlB (K : PySem.W.Frag) : V → Option Int → Option Int → Hp → VK → Prop := fun x lo hi H Q => rSlL K x lo hi H Q ∨ rSlA K x lo hi H Q
theorem sl_any {X : Cx} : SlR X (rSlB X.K) := SlR.or sl_list sl_tupA
theorem sim_sl {Ha : Hp} {x z : R} {vx : V} {lo hi : Option Int} (Z : RSt W ι H S) (hx : RR W Ha ι S.length H x vx) (e : gSl S x lo hi = some z) {Q : VK}
    (hQ : ∀ v H', RSt W ι H' S → Ext ι S.length H ι S.length H' → RR W H ι S.length H' z v → Q v H') : rSlB W.K vx lo hi H Q := by
  have lst : ∀ xs, x.lseq S = some xs → z = .l (cutD xs lo hi) → rSlB W.K vx lo hi H Q := fun xs q ez => by
    subst ez
    obtain ⟨a, vs, rfl, e1, e2⟩ := lseq_rep Z hx q
    exact .inl ⟨a, vs, rfl, .inl e1, fun p hp => new_lst Z hp (reps_cut e2 lo hi) hQ⟩
  unfold gSl at e
  split at e
  · rename_i xs
    cases e
    cases hx with
    | @tup _ a vs e1 e2 =>
      refine .inr ⟨a, vs, rfl, .of e1, fun hw => ?_, fun _ p hp => new_tup Z hp (reps_cut e2 lo hi) hQ⟩
      have r := reps_cut e2 lo hi
      rw [cutV_whole hw] at r
      exact hQ _ H Z .refl (.tup e1 r)
  · split at e
    · rename_i xs q
      cases e
      exact lst xs q rfl
    · cases e
/-- a part of a slice -/
def ePart : Option E → Env → Store → Option (Option Int × Store)
  | none, _, S => some (none, S)
  | some f, ρ, S => bnd (f ρ S) fun x S1 => x.int.map fun i => (some i, S1)
def SimP (W : Wd) (t : TO) (f : Option E) : Prop := ∀ (σ : St) (H : Hp) (ι : Nat → Addr) (ρ : Env) (S : Store) (H0 : Hp) (o : Option Int) (S' : Store),
  RSt W ι H S → REnv W H0 ι S.length H ρ σ → ePart f ρ S = some (o, S') → ∀ Q : Option Int → Hp → Prop,
    (∀ H' ι', RSt W ι' H' S' → Ext ι S.length H ι' S'.length H' → Q o H') → t σ H Q
theorem simP_none : SimP W tNoPart none := by
  intro σ H ι ρ S H0 o S' Z N e Q hQ
  cases e
  exact hQ H ι Z .refl
theorem simP_some {t : TE} {f : E} (h : SimE W t f) : SimP W (tPart t) (some f) := by
  intro σ H ι ρ S H0 o S' Z N e Q hQ
  obtain ⟨x, S1, e1, e⟩ := bnd_eq e
  cases q : x.int with
  | none => rw [q] at e; cases e
  | some i =>
    rw [q] at e
    cases e
    have := int_eq q
    subst this
    refine h.then Z N e1 fun v1 H1 ι1 Z1 X1 N1 R1 => ?_
    cases R1
    exact ⟨i, rfl, hQ H1 ι1 Z1 X1⟩
def eSlice (fa : E) (lo hi : Option E) : E := fun ρ S => bnd (fa ρ S) fun x S1 => bnd (ePart lo ρ S1) fun l S2 => bnd (ePart hi ρ S2) fun u S3 => (gSl S3 x l u).map fun z => (z, S3)
theorem sim_slice {ta : TE} {fa : E} {tl th : TO} {lo hi : Option E} (ha : SimE W ta fa) (hl : SimP W tl lo) (hh : SimP W th hi) : SimE W (tSl (rSlB W.K) ta tl th) (eSlice fa lo hi) := by
  intro σ H ι ρ S H0 z S' Z N e Q hQ
  obtain ⟨x, S1, e1, e⟩ := bnd_eq e
  obtain ⟨l, S2, e2, e⟩ := bnd_eq e
  obtain ⟨u, S3, e3, e⟩ := bnd_eq e
  cases q : gSl S3 x l u with
  | none => rw [q] at e; cases e
  | some z' =>
    rw [q] at e
    cases e
    refine ha.then Z N e1 fun v1 H1 ι1 Z1 X1 N1 R1 => ?_
    refine hl σ H1 ι1 ρ S1 H0 l S2 Z1 N1 e2 _ fun H2 ι2 Z2 X2 => ?_
    have N2 := N1.ext X2 Z1
    refine hh σ H2 ι2 ρ S2 H0 u S' Z2 N2 e3 _ fun H3 ι3 Z3 X3 => ?_
    have X13 := (X1.trans X2 Z1).trans X3 Z2
    refine sim_sl Z3 ((R1.ext X2 Z1).ext X3 Z2) q fun v H4 Z4 X4 R4 => ?_
    exact hQ v H4 ι3 Z4 (X13.trans X4 Z3) (R4.back2 X13 Z3)
end
end Ev

set_option Elab.async false
set_option linter.all false
set_option maxRecDepth 100000
set_option maxHeartbeats 4000000
/-! Arguments and built-ins. -/
namespace Ev
open PySem L2

def eArgs : List E → Env → Store → Option (List R × Store)
  | [], _, S => some ([], S)
  | f :: fs, ρ, S => bnd (f ρ S) fun x S1 => bnd (eArgs fs ρ S1) fun xs S2 => some (x :: xs, S2)
def SimA (W : Wd) (t : TA) (fs : List E) : Prop := ∀ (σ : St) (H : Hp) (ι : Nat → Addr) (ρ : Env) (S : Store) (H0 : Hp) (rs : List R) (S' : Store),
  RSt W ι H S → REnv W H0 ι S.length H ρ σ → eArgs fs ρ S = some (rs, S') → ∀ Q : List V → Hp → Prop,
    (∀ vs H' ι', RSt W ι' H' S' → Ext ι S.length H ι' S'.length H' → All2 (RR W H ι' S'.length H') rs vs → Q vs H') → t σ H Q
section
variable {W : Wd} {ι ι' : Nat → Addr} {n : Nat} {H H' H0 : Hp} {S S' : Store} {ρ : Env} {σ : St} {K : PySem.W.Frag}
theorem simA_nil : SimA W tNil [] := by
  intro σ H ι ρ S H0 rs S' Z N e Q hQ
  cases e
  exact hQ [] H ι Z .refl .nil
theorem simA_cons {t : TE} {f : E} {ts : TA} {fs : List E} (h : SimE W t f) (hs : SimA W ts fs) : SimA W (tCons t ts) (f :: fs) := by
  intro σ H ι ρ S H0 rs S' Z N e Q hQ
  obtain ⟨x, S1, e1, e⟩ := bnd_eq e
  obtain ⟨xs, S2, e2, e⟩ := bnd_eq e
  cases e
  refine h.then Z N e1 fun v1 H1 ι1 Z1 X1 N1 R1 => ?_
  refine hs σ H1 ι1 ρ S1 H0 xs S' Z1 N1 e2 _ fun vs H2 ι2 Z2 X2 R2 => ?_
  exact hQ (v1 :: vs) H2 ι2 Z2 (X1.trans X2 Z1) (.cons (R1.ext X2 Z1) (R2.mono fun r v q => q.back2 X1 Z1))
/-- a built-in called with values -/
def SimC (W : Wd) (r : List V → Hp → VK → Prop) (g : Store → List R → Option R) : Prop := ∀ (H : Hp) (ι : Nat → Addr) (S : Store) (Ha : Hp) (xs : List R) (z : R) (vs : List V),
  RSt W ι H S → All2 (RR W Ha ι S.length H) xs vs → g S xs = some z → ∀ Q : VK,
    (∀ v H', RSt W ι H' S → Ext ι S.length H ι S.length H' → RR W H ι S.length H' z v → Q v H') → r vs H Q
def eBlt (g : Store → List R → Option R) (fs : List E) : E := fun ρ S => bnd (eArgs fs ρ S) fun xs S1 => (g S1 xs).map fun z => (z, S1)
theorem sim_blt {t : TA} {fs : List E} {r : List V → Hp → VK → Prop} {g : Store → List R → Option R} (ha : SimA W t fs) (ho : SimC W r g) : SimE W (tCB r t) (eBlt g fs) := by
  intro σ H ι ρ S H0 z S' Z N e Q hQ
  obtain ⟨xs, S1, e1, e⟩ := bnd_eq e
  cases q : g S1 xs with
  | none => rw [q] at e; cases e
  | some z' =>
    rw [q] at e
    cases e
    refine ha σ H ι ρ S H0 xs S' Z N e1 _ fun vs H1 ι1 Z1 X1 R1 => ?_
    refine ho H1 ι1 S' H xs z vs Z1 R1 q _ fun v H3 Z3 X3 R3 => ?_
    exact hQ v H3 ι1 Z3 (X1.trans X3 Z1) (R3.back2 X1 Z1)
theorem all2_one {F : R → V → Prop} {x : R} {vs : List V} (h : All2 F [x] vs) : ∃ v, vs = [v] ∧ F x v := by
  cases h with
  | cons h t => cases t; exact ⟨_, rfl, h⟩
theorem all2_two {F : R → V → Prop} {x y : R} {vs : List V} (h : All2 F [x, y] vs) : ∃ v w, vs = [v, w] ∧ F x v ∧ F y w := by
  cases h with
  | cons h t =>
    obtain ⟨w, rfl, q⟩ := all2_one t
    exact ⟨_, w, rfl, h, q⟩

/-! ### len -/
def gLen (S : Store) (xs : List R) : Option R := match xs with
  | [.v (.str s)] => if s.length ≤ cap then some (.v (.int s.length)) else none
  | [x] => (x.seq S).map fun ys => .v (.int ys.length)
  | _ => none
def rLenA (K : PySem.W.Frag) : List V → Hp → VK → Prop := fun xs H Q => (∃ p ys, xs = [.ref p] ∧ (SqL K H p ys ∨ SqT K H p ys) ∧ Q (.int ys.length) H) ∨ ∃ z : Str, xs = [.str z] ∧ z.length ≤ sizeLine ∧ Q (.int z.length) H
theorem CallR.or {X : Cx} {f : Value} {r r' : List V → Hp → VK → Prop} (h : CallR X f r) (h' : CallR X f r') : CallR X f (fun xs H Q => r xs H Q ∨ r' xs H Q) :=
  fun pins s σ H xs us Q I rv q => q.elim (h pins s σ H xs us Q I rv) (h' pins s σ H xs us Q I rv)
theorem call_lenA {X : Cx} : CallR X (.builtin "len") (rLenA X.K) := CallR.or call_len_seq call_len_str
theorem sim_len : SimC W (rLenA K) gLen := by
  intro H ι S Ha xs z vs Z hx e Q hQ
  unfold gLen at e
  split at e
  · split at e
    · rename_i s c
      cases e
      obtain ⟨v, rfl, r⟩ := all2_one hx
      cases r
      exact .inr ⟨s, rfl, by rw [← cap_eq]; exact c, hQ _ H Z .refl (.int _)⟩
    · cases e
  · rename_i x _
    cases q : x.seq S with
    | none => rw [q] at e; cases e
    | some ys =>
      rw [q] at e
      cases e
      obtain ⟨v, rfl, r⟩ := all2_one hx
      obtain ⟨a, ws, rfl, h1, h2⟩ := seq_rep Z r q
      refine .inl ⟨a, ws, rfl, ?_, by rw [← h2.length]; exact hQ _ H Z .refl (.int _)⟩
      rcases h1 with h1 | h1
      · exact .inl (.inl h1)
      · exact .inr (.of h1)
  · cases e

/-! ### abs, max, min, int, str -/
def gAbs (_ : Store) (xs : List R) : Option R := match xs with
  | [x] => x.int.map fun i => .v (.int (if i < 0 then -i else i))
  | _ => none
theorem sim_abs : SimC W (fun xs H Q => ∃ i, xs = [.int i] ∧ Q (.int (if i < 0 then -i else i)) H) gAbs := by
  intro H ι S Ha xs z vs Z hx e Q hQ
  unfold gAbs at e
  split at e
  · rename_i x
    cases q : x.int with
    | none => rw [q] at e; cases e
    | some i =>
      rw [q] at e
      cases e
      obtain ⟨v, rfl, r⟩ := all2_one hx
      have := int_eq q
      subst this
      cases r
      exact ⟨i, rfl, hQ _ H Z .refl (.int _)⟩
  · cases e
def gMax2 (_ : Store) (xs : List R) : Option R := match xs with
  | [.v (.int i), .v (.int j)] => some (.v (.int (if j > i then j else i)))
  | _ => none
theorem sim_max2 : SimC W (fun xs H Q => ∃ i j, xs = [.int i, .int j] ∧ Q (.int (if j > i then j else i)) H) gMax2 := by
  intro H ι S Ha xs z vs Z hx e Q hQ
  unfold gMax2 at e
  split at e
  · cases e
    obtain ⟨v, w, rfl, r1, r2⟩ := all2_two hx
    cases r1; cases r2
    exact ⟨_, _, rfl, hQ _ H Z .refl (.int _)⟩
  · cases e
/-- the numbers of values -/
def R.nums (S : Store) (x : R) : Option (List Int) := (x.lseq S).bind ints1
def minL : List Int → Int
  | [] => 0
  | [x] => x
  | x :: xs => if minL xs < x then minL xs else x
theorem minL_ok : ∀ xs : List Int, 0 < xs.length → minL xs ∈ xs ∧ ∀ y ∈ xs, minL xs ≤ y
  | [], h => absurd h (by simp)
  | [x], _ => by simp [minL]
  | x :: y :: r, _ => by
    have ih := minL_ok (y :: r) (by simp)
    unfold minL
    by_cases h : minL (y :: r) < x
    · rw [if_pos h]
      refine ⟨List.mem_cons_of_mem _ ih.1, fun z hz => ?_⟩
      rcases List.mem_cons.mp hz with e | hz
      · omega
      · exact ih.2 z hz
    · rw [if_neg h]
      refine ⟨List.mem_cons_self, fun z hz => ?_⟩
      rcases List.mem_cons.mp hz with e | hz
      · omega
      · have := ih.2 z hz; omega
theorem min_unique {xs : List Int} {m m' : Int} (h1 : m ∈ xs) (h2 : ∀ y, y ∈ xs → m ≤ y) (h3 : m' ∈ xs) (h4 : ∀ y, y ∈ xs → m' ≤ y) : m = m' := by
  have := h2 m' h3
  have := h4 m h1
  omega
def gMin (S : Store) (xs : List R) : Option R := match xs with
  | [.v (.int i), .v (.int j)] => some (.v (.int (if j < i then j else i)))
  | [x] => (x.nums S).bind fun ns => if 0 < ns.length then some (.v (.int (minL ns))) else none
  | _ => none
def rMinA (K : PySem.W.Frag) : List V → Hp → VK → Prop := fun xs H Q => (∃ i j, xs = [.int i, .int j] ∧ Q (.int (if j < i then j else i)) H) ∨ rMin K xs H Q
theorem call_minA {X : Cx} (hc : X.calm = true) : CallR X (.builtin "min") (rMinA X.K) := CallR.or (call_min2 hc) (cr_min hc)
theorem nums_rep {r : R} {v : V} {ns : List Int} (Z : RSt W ι H S) (h : RR W H0 ι S.length H r v) (e : r.nums S = some ns) : ∃ a, v = .ref a ∧ Rd H a (.lst (ns.map V.int)) := by
  unfold R.nums at e
  cases q : r.lseq S with
  | none => rw [q] at e; cases e
  | some xs =>
    rw [q] at e
    obtain ⟨a, vs, rfl, e1, e2⟩ := lseq_rep Z h q
    have ex := ints1_eq (show ints1 xs = some ns from e)
    subst ex
    rw [reps_ints e2] at e1
    exact ⟨a, rfl, e1⟩
theorem sim_min : SimC W (rMinA K) gMin := by
  intro H ι S Ha xs z vs Z hx e Q hQ
  unfold gMin at e
  split at e
  · cases e
    obtain ⟨v, w, rfl, r1, r2⟩ := all2_two hx
    cases r1; cases r2
    exact .inl ⟨_, _, rfl, hQ _ H Z .refl (.int _)⟩
  · rename_i x
    cases q : x.nums S with
    | none => rw [q] at e; cases e
    | some ns =>
      rw [q] at e
      simp only [Option.bind_some] at e
      split at e
      · rename_i c
        cases e
        obtain ⟨v, rfl, r⟩ := all2_one hx
        obtain ⟨a, rfl, h1⟩ := nums_rep Z r q
        refine .inr ⟨a, ns, rfl, .inl h1, c, fun m h2 h3 => ?_⟩
        have q2 := minL_ok ns c
        rw [min_unique h2 h3 q2.1 q2.2]
        exact hQ _ H Z .refl (.int _)
      · cases e
  · cases e
def gInt (_ : Store) (xs : List R) : Option R := match xs with
  | [.v (.int i)] => some (.v (.int i))
  | [.v (.bl b)] => some (.v (.int (if b then 1 else 0)))
  | _ => none
def rIntA : List V → Hp → VK → Prop := fun xs H Q => (∃ i, xs = [.int i] ∧ Q (.int i) H) ∨ ∃ k, xs = [.bl k] ∧ Q (.int (if k then 1 else 0)) H
theorem sim_intc : SimC W rIntA gInt := by
  intro H ι S Ha xs z vs Z hx e Q hQ
  unfold gInt at e
  split at e
  · cases e
    obtain ⟨v, rfl, r⟩ := all2_one hx
    cases r
    exact .inl ⟨_, rfl, hQ _ H Z .refl (.int _)⟩
  · cases e
    obtain ⟨v, rfl, r⟩ := all2_one hx
    cases r
    exact .inr ⟨_, rfl, hQ _ H Z .refl (.int _)⟩
  · cases e
def gStr (_ : Store) (xs : List R) : Option R := match xs with
  | [.v (.int i)] => if decide (0 ≤ i) && decide (i < 1000000) then some (.v (.str (toString i))) else none
  | _ => none
theorem sim_strc : SimC W (fun xs H Q => ∃ i : Int, xs = [.int i] ∧ i.natAbs.log2 < 1920 ∧ Q (.str (toString i)) H) gStr := by
  intro H ι S Ha xs z vs Z hx e Q hQ
  unfold gStr at e
  split at e
  · split at e
    · rename_i i c
      cases e
      simp only [Bool.and_eq_true, decide_eq_true_eq] at c
      obtain ⟨v, rfl, r⟩ := all2_one hx
      cases r
      refine ⟨_, rfl, ?_, hQ _ H Z .refl (.str _)⟩
      have hb : i.natAbs < 1000000 := by omega
      by_cases h0 : i.natAbs = 0
      · rw [h0]; decide
      · have := (Nat.log2_lt h0 (k := 1920)).mpr (Nat.lt_trans hb (by decide))
        exact this
    · cases e
  · cases e

/-! ### sum, all -/
def gSum (S : Store) (xs : List R) : Option R := match xs with
  | [x] => (x.nums S).map fun ns => .v (.int ns.sum)
  | _ => none
theorem sim_sum : SimC W (rSum K) gSum := by
  intro H ι S Ha xs z vs Z hx e Q hQ
  unfold gSum at e
  split at e
  · rename_i x
    cases q : x.nums S with
    | none => rw [q] at e; cases e
    | some ns =>
      rw [q] at e
      cases e
      obtain ⟨v, rfl, r⟩ := all2_one hx
      obtain ⟨a, rfl, h1⟩ := nums_rep Z r q
      exact ⟨a, ns, rfl, .inl h1, hQ _ H Z .refl (.int _)⟩
  · cases e
def bools1 : List D → Option (List Bool)
  | [] => some []
  | .bl i :: xs => (bools1 xs).map (i :: ·)
  | _ :: _ => none
theorem reps_bools : ∀ {ds : List D} {bs : List Bool} {vs : List V}, bools1 ds = some bs → Reps ι n H ds vs → vs = bs.map V.bl
  | [], _, _, e, h => by cases e; cases h; rfl
  | x :: ds, bs, _, e, h => by
    cases x with
    | bl b =>
      unfold bools1 at e
      cases q : bools1 ds with
      | none => rw [q] at e; cases e
      | some cs =>
        rw [q] at e
        cases e
        cases h with
        | cons h1 h2 => cases h1; rw [reps_bools q h2]; rfl
    | _ => cases e
def gAll (S : Store) (xs : List R) : Option R := match xs with
  | [x] => ((x.lseq S).bind bools1).map fun bs => .v (.bl (bs.all id))
  | _ => none
theorem sim_all : SimC W (rAll K) gAll := by
  intro H ι S Ha xs z vs Z hx e Q hQ
  unfold gAll at e
  split at e
  · rename_i x
    cases q : x.lseq S with
    | none => rw [q] at e; cases e
    | some ys =>
      rw [q] at e
      simp only [Option.bind_some] at e
      cases q2 : bools1 ys with
      | none => rw [q2] at e; cases e
      | some bs =>
        rw [q2] at e
        cases e
        obtain ⟨v, rfl, r⟩ := all2_one hx
        obtain ⟨a, ws, rfl, h1, h2⟩ := lseq_rep Z r q
        rw [reps_bools q2 h2] at h1
        exact ⟨a, bs, rfl, .inl h1, hQ _ H Z .refl (.bl _)⟩
  · cases e

/-! ### list, tuple, sorted -/
def gList (S : Store) (xs : List R) : Option R := match xs with
  | [x] => (x.seq S).map fun ys => .l ys
  | _ => none
theorem sim_list : SimC W (fun xs H Q => ∃ p ys, xs = [.ref p] ∧ (SqL K H p ys ∨ SqT K H p ys) ∧ ∀ l, H l = none → Q (.ref l) (upd H l (.lst ys))) gList := by
  intro H ι S Ha xs z vs Z hx e Q hQ
  unfold gList at e
  split at e
  · rename_i x
    cases q : x.seq S with
    | none => rw [q] at e; cases e
    | some ys =>
      rw [q] at e
      cases e
      obtain ⟨v, rfl, r⟩ := all2_one hx
      obtain ⟨a, ws, rfl, h1, h2⟩ := seq_rep Z r q
      refine ⟨a, ws, rfl, ?_, fun l hl => new_lst Z hl h2 hQ⟩
      rcases h1 with h1 | h1
      · exact .inl (.inl h1)
      · exact .inr (.of h1)
  · cases e
def gTuple (S : Store) (xs : List R) : Option R := match xs with
  | [x] => (x.seq S).map fun ys => .v (.tup ys)
  | _ => none
theorem sim_tuple : SimC W (fun xs H Q => ∃ p ys, xs = [.ref p] ∧ ((SqL K H p ys ∧ ∀ l, H l = none → Q (.ref l) (upd H l (.tup ys))) ∨ (SqT K H p ys ∧ Q (.ref p) H))) gTuple := by
  intro H ι S Ha xs z vs Z hx e Q hQ
  unfold gTuple at e
  split at e
  · rename_i x
    cases q : x.seq S with
    | none => rw [q] at e; cases e
    | some ys =>
      rw [q] at e
      cases e
      obtain ⟨v, rfl, r⟩ := all2_one hx
      obtain ⟨a, ws, rfl, h1, h2⟩ := seq_rep Z r q
      rcases h1 with h1 | h1
      · exact ⟨a, ws, rfl, .inl ⟨.inl h1, fun l hl => new_tup Z hl h2 hQ⟩⟩
      · exact ⟨a, ws, rfl, .inr ⟨.of h1, hQ _ H Z .refl (.tup h1 h2)⟩⟩
  · cases e
def insI (x : Int) : List Int → List Int
  | [] => [x]
  | y :: ys => if x ≤ y then x :: y :: ys else y :: insI x ys
def sortI : List Int → List Int
  | [] => []
  | x :: xs => insI x (sortI xs)
theorem insI_perm (x : Int) : ∀ ys : List Int, (insI x ys).Perm (x :: ys)
  | [] => .refl _
  | y :: ys => by
    unfold insI
    split
    · exact .refl _
    · exact ((insI_perm x ys).cons y).trans (.swap x y ys)
theorem insI_mem {x z : Int} {ys : List Int} (h : z ∈ insI x ys) : z = x ∨ z ∈ ys := List.mem_cons.mp ((insI_perm x ys).mem_iff.mp h)
theorem insI_sorted (x : Int) : ∀ ys : List Int, ys.Pairwise (· ≤ ·) → (insI x ys).Pairwise (· ≤ ·)
  | [], _ => by simp [insI]
  | y :: ys, h => by
    unfold insI
    rw [List.pairwise_cons] at h
    split
    · rename_i c
      rw [List.pairwise_cons, List.pairwise_cons]
      refine ⟨fun z hz => ?_, h⟩
      rcases List.mem_cons.mp hz with e | hz
      · omega
      · have := h.1 z hz; omega
    · rename_i c
      rw [List.pairwise_cons]
      refine ⟨fun z hz => ?_, insI_sorted x ys h.2⟩
      rcases insI_mem hz with e | hz
      · omega
      · exact h.1 z hz
theorem sortI_perm : ∀ xs : List Int, (sortI xs).Perm xs
  | [] => .refl _
  | x :: xs => (insI_perm x _).trans ((sortI_perm xs).cons x)
theorem sortI_sorted : ∀ xs : List Int, (sortI xs).Pairwise (· ≤ ·)
  | [] => List.Pairwise.nil
  | x :: xs => insI_sorted x _ (sortI_sorted xs)
theorem sortI_unique {xs ys : List Int} (hp : ys.Perm xs) (hs : ys.Pairwise (· ≤ ·)) : ys = sortI xs :=
  PySem.W.ksm_same (hp.trans (sortI_perm xs).symm) hs (sortI_sorted xs)
def gSorted (S : Store) (xs : List R) : Option R := match xs with
  | [x] => (x.nums S).map fun ns => .l ((sortI ns).map D.int)
  | _ => none
theorem sim_sorted : SimC W (rSortedI K) gSorted := by
  intro H ι S Ha xs z vs Z hx e Q hQ
  unfold gSorted at e
  split at e
  · rename_i x
    cases q : x.nums S with
    | none => rw [q] at e; cases e
    | some ns =>
      rw [q] at e
      cases e
      obtain ⟨v, rfl, r⟩ := all2_one hx
      obtain ⟨a, rfl, h1⟩ := nums_rep Z r q
      refine ⟨a, ns, rfl, .inl h1, fun ns' p hp hs hn => ?_⟩
      rw [sortI_unique hp hs]
      exact new_lst Z hn ints_reps hQ
  · cases e
end
end Ev

set_option Elab.async false
set_option linter.all false
set_option maxRecDepth 100000
set_option maxHeartbeats 4000000
/-! isinstance, sets that are sorted, ranges, displays. -/
namespace Ev
open PySem L2

/-! ### isinstance of a built-in class -/
inductive Ty where
  | int | bool | str | tuple | list
  deriving DecidableEq, Repr
def Ty.name : Ty → String
  | .int => "int" | .bool => "bool" | .str => "str" | .tuple => "tuple" | .list => "list"
inductive Kd where
  | non | bool | int | str | tuple | list
  deriving DecidableEq
def Kd.name : Kd → String
  | .non => "NoneType" | .bool => "bool" | .int => "int" | .str => "str" | .tuple => "tuple" | .list => "list"
def R.kd (S : Store) : R → Option Kd
  | .v .non => some .non
  | .v (.bl _) => some .bool
  | .v (.int _) => some .int
  | .v (.str _) => some .str
  | .v (.tup _) => some .tuple
  | .v (.ob h) => (match S[h]? with
    | some (.lst _) => some .list
    | _ => none)
  | .l _ => some .list
  | .b _ => some .list
  | _ => none
def isTy : Kd → Ty → Bool
  | .bool, .bool => true
  | .bool, .int => true
  | .int, .int => true
  | .str, .str => true
  | .tuple, .tuple => true
  | .list, .list => true
  | _, _ => false
theorem kit_tab : ∀ (k : Kd) (t : Ty), kitB k.name t.name = some (isTy k t) := by
  intro k t
  cases k <;> cases t <;> decide +kernel
section
variable {W : Wd} {ι ι' : Nat → Addr} {n : Nat} {H H' H0 : Hp} {S S' : Store} {ρ : Env} {σ : St} {K : PySem.W.Frag}
theorem kd_ty {x : R} {v : V} {k : Kd} (Z : RSt W ι H S) (h : RR W H0 ι S.length H x v) (e : x.kd S = some k) : TyX K H v (.type k.name) := by
  cases x with
  | v d =>
    cases d with
    | non => cases e; cases h; exact .base .non
    | bl b => cases e; cases h; exact .base (.bl b)
    | int i => cases e; cases h; exact .base (.int i)
    | str s => cases e; cases h; exact .base (.str s)
    | tup xs =>
      cases e
      cases h with
      | tup h1 h2 => exact .base (.tup h1)
    | ob m =>
      cases h with
      | ob hm =>
        unfold R.kd at e
        simp only at e
        split at e
        · rename_i xs q
          cases e
          obtain ⟨vs, e1, _⟩ := Z.at_ m _ q
          exact .base (.lst e1)
        · cases e
  | l xs =>
    cases e
    obtain ⟨a, vs, rfl, e1, _⟩ := h
    exact .base (.lst e1)
  | b xs =>
    cases e
    obtain ⟨a, vs, rfl, e1, _⟩ := h
    exact .base (.lst e1)
  | _ => cases e
def eIsi (t : Ty) (fa : E) : E := fun ρ S => bnd (fa ρ S) fun x S1 => (x.kd S1).map fun k => (.v (.bl (isTy k t)), S1)
theorem sim_isi {ta : TE} {fa : E} {t : Ty} (ha : SimE W ta fa) : SimE W (tCB (rIsi W.K) (tCons ta (tCons (tC (.ty t.name)) tNil))) (eIsi t fa) := by
  intro σ H ι ρ S H0 z S' Z N e Q hQ
  obtain ⟨x, S1, e1, e⟩ := bnd_eq e
  cases q : x.kd S1 with
  | none => rw [q] at e; cases e
  | some k =>
    rw [q] at e
    cases e
    refine ha.then Z N e1 fun v1 H1 ι1 Z1 X1 N1 R1 => ?_
    exact ⟨v1, .ty t.name, .type k.name, .type t.name, isTy k t, rfl, .ty _, kd_ty Z1 R1 q, kit_ty (kit_tab k t), hQ _ H1 ι1 Z1 X1 (.bl _)⟩

/-! ### sorted(set(x)), len(set(x)) of numbers -/
def insU (x : Int) : List Int → List Int
  | [] => [x]
  | y :: ys => if x < y then x :: y :: ys else if x = y then y :: ys else y :: insU x ys
def sortU : List Int → List Int
  | [] => []
  | x :: xs => insU x (sortU xs)
theorem insU_mem {x z : Int} : ∀ {ys : List Int}, z ∈ insU x ys ↔ z = x ∨ z ∈ ys
  | [] => by simp [insU]
  | y :: ys => by
    unfold insU
    split
    · simp
    · split
      · rename_i c
        subst c
        simp only [List.mem_cons]
        constructor
        · exact fun h => .inr h
        · rintro (h | h)
          · exact .inl h
          · exact h
      · simp only [List.mem_cons, insU_mem (ys := ys)]
        constructor
        · rintro (h | h | h)
          · exact .inr (.inl h)
          · exact .inl h
          · exact .inr (.inr h)
        · rintro (h | h | h)
          · exact .inr (.inl h)
          · exact .inl h
          · exact .inr (.inr h)
theorem insU_sorted (x : Int) : ∀ ys : List Int, ys.Pairwise (· < ·) → (insU x ys).Pairwise (· < ·)
  | [], _ => by simp [insU]
  | y :: ys, h => by
    have h' := h
    unfold insU
    rw [List.pairwise_cons] at h
    split
    · rw [List.pairwise_cons]
      refine ⟨fun z hz => ?_, h'⟩
      rcases List.mem_cons.mp hz with e | hz
      · omega
      · have := h.1 z hz; omega
    · split
      · exact h'
      · rw [List.pairwise_cons]
        refine ⟨fun z hz => ?_, insU_sorted x ys h.2⟩
        rcases insU_mem.mp hz with e | hz
        · omega
        · exact h.1 z hz
theorem sortU_mem {z : Int} : ∀ {xs : List Int}, z ∈ sortU xs ↔ z ∈ xs
  | [] => by simp [sortU]
  | x :: xs => by
    unfold sortU
    rw [insU_mem, List.mem_cons, sortU_mem (xs := xs)]
theorem sortU_sorted : ∀ xs : List Int, (sortU xs).Pairwise (· < ·)
  | [] => List.Pairwise.nil
  | x :: xs => insU_sorted x _ (sortU_sorted xs)
theorem strict_unique : ∀ {xs ys : List Int}, xs.Pairwise (· < ·) → ys.Pairwise (· < ·) → (∀ z, z ∈ xs ↔ z ∈ ys) → xs = ys
  | [], [], _, _, _ => rfl
  | [], y :: ys, _, _, h => absurd ((h y).mpr List.mem_cons_self) (by simp)
  | x :: xs, [], _, _, h => absurd ((h x).mp List.mem_cons_self) (by simp)
  | x :: xs, y :: ys, hx, hy, h => by
    rw [List.pairwise_cons] at hx hy
    have e : x = y := by
      have h1 := (h x).mp List.mem_cons_self
      have h2 := (h y).mpr List.mem_cons_self
      rcases List.mem_cons.mp h1 with e | h1
      · exact e
      · rcases List.mem_cons.mp h2 with e | h2
        · exact e.symm
        · have := hy.1 x h1
          have := hx.1 y h2
          omega
    subst e
    rw [strict_unique hx.2 hy.2 fun z => ?_]
    constructor
    · intro hz
      rcases List.mem_cons.mp ((h z).mp (List.mem_cons_of_mem _ hz)) with e | q
      · have := hx.1 z hz; omega
      · exact q
    · intro hz
      rcases List.mem_cons.mp ((h z).mpr (List.mem_cons_of_mem _ hz)) with e | q
      · have := hy.1 z hz; omega
      · exact q
/-- set(t), t a tuple of numbers -/
def rSetT (K : PySem.W.Frag) (w : World) : List V → Hp → VK → Prop := fun xs H Q => ∃ (p : Addr) (ns : List Int), xs = [.ref p] ∧ SqT K H p (ns.map V.int) ∧ ns.length ≤ 1000 ∧
  ∀ (l : Addr) (c : Nat), H l = none → c ≤ ns.length → Q (.ref l) (upd H l (SetO w l (fun j => decide (j ∈ ns)) c))
theorem call_setT {X : Cx} (hc : X.calm = true) : CallR X (.type "set") (rSetT X.K X.w) := by
  intro pins s σ H xs us Q I r h
  obtain ⟨p, ns, rfl, hq, hl, q⟩ := h
  obtain ⟨u, rfl, ru⟩ := vals1 r
  cases ru
  obtain ⟨its, rv, pt, hz⟩ := I.tuple hq
  refine call_set_tupI ns (I.ok.hd hc) (show s.heap.IsTuple p its.toArray from pt) (ints_of_vals rv) (by unfold scanBound; omega) fun h' tk c R1 hcn k => ?_
  have hn : H s.heap.objs.size = none := I.hok.fresh (Nat.le_refl _)
  exact ⟨.ref s.heap.objs.size, _, I.laid (t' := tk) k (Nat.le_refl _) (setO_new R1), rfl, q _ c hn hcn⟩
def eSortedSet (fa : E) : E := fun ρ S => bnd (fa ρ S) fun x S1 => match x with
  | .v (.tup xs) => (ints1 xs).bind fun ns => if ns.length < 64 then some (.l ((sortU ns).map D.int), S1) else none
  | _ => none
theorem sim_sortedSet {ta : TE} {fa : E} (ha : SimE W ta fa) : SimE W (tCB (rSortedSet W.w) (tCons (tCB (rSetT W.K W.w) (tCons ta tNil)) tNil)) (eSortedSet fa) := by
  intro σ H ι ρ S H0 z S' Z N e Q hQ
  obtain ⟨x, S1, e1, e⟩ := bnd_eq e
  split at e
  · rename_i xs
    cases q : ints1 xs with
    | none => rw [q] at e; cases e
    | some ns =>
      rw [q] at e
      simp only [Option.bind_some] at e
      split at e
      · rename_i c
        cases e
        refine ha.then Z N e1 fun v1 H1 ι1 Z1 X1 N1 R1 => ?_
        have ex := ints1_eq q
        subst ex
        cases R1 with
        | tup h1 h2 =>
          rw [reps_ints h2] at h1
          refine ⟨_, ns, rfl, .of h1, by omega, fun l m hl hm => ?_⟩
          refine ⟨l, _, m, rfl, upd_same, by omega, fun ns' p hs hmem _ hp => ?_⟩
          have Z2 := Z1.upd (o := SetO W.w l (fun j => decide (j ∈ ns)) m) hl
          have X2 : Ext ι1 S'.length H1 ι1 S'.length (upd H1 l (SetO W.w l (fun j => decide (j ∈ ns)) m)) := Ext.upd hl
          have en : ns' = sortU ns := strict_unique hs (sortU_sorted ns) fun z => by rw [hmem, sortU_mem, decide_eq_true_eq]
          rw [en]
          refine new_lst Z2 hp ints_reps fun v H3 Z3 X3 R3 => ?_
          have X13 := X1.trans X2 Z1
          exact hQ v H3 ι1 Z3 (X13.trans X3 Z2) (R3.back2 X13 Z2)
      · cases e
  · cases e
def eLenSet (fa : E) : E := fun ρ S => bnd (fa ρ S) fun x S1 => (x.nums S1).bind fun ns => if decide ns.Nodup && decide (ns.length ≤ 4000) then some (.v (.int ns.length), S1) else none
theorem sim_lenSet {ta : TE} {fa : E} (ha : SimE W ta fa) : SimE W (RZ.tLenSetI W.K ta) (eLenSet fa) := by
  intro σ H ι ρ S H0 z S' Z N e Q hQ
  obtain ⟨x, S1, e1, e⟩ := bnd_eq e
  cases q : x.nums S1 with
  | none => rw [q] at e; cases e
  | some ns =>
    rw [q] at e
    simp only [Option.bind_some] at e
    split at e
    · rename_i c
      cases e
      obtain ⟨c1, c2⟩ := Bool.and_eq_true_iff.mp c
      refine ha.then Z N e1 fun v1 H1 ι1 Z1 X1 N1 R1 => ?_
      obtain ⟨a, rfl, h1⟩ := nums_rep Z1 R1 q
      exact ⟨a, ns, rfl, .inl h1, of_decide_eq_true c1, of_decide_eq_true c2, hQ _ H1 ι1 Z1 X1 (.int _)⟩
    · cases e

/-! ### list(range(n)), tuple(range(n)) -/
def rangeD (n : Int) : List D := (List.range n.toNat).map fun i => .int (i : Nat)
def smallN (n : Int) : Bool := decide (0 ≤ n) && decide (n ≤ 16777216)
def eListRg (fa : E) : E := fun ρ S => bnd (fa ρ S) fun x S1 => x.int.bind fun n => if smallN n then some (.l (rangeD n), S1) else none
def eTupRg (fa : E) : E := fun ρ S => bnd (fa ρ S) fun x S1 => x.int.bind fun n => if smallN n then some (.v (.tup (rangeD n)), S1) else none
theorem reps_range {n : Int} {m : Nat} : Reps ι m H (rangeD n) (rgV 0 n) := by
  unfold rangeD rgV
  have e : (n - 0).toNat = n.toNat := by rw [Int.sub_zero]
  rw [e]
  have all : ∀ l : List Nat, Reps ι m H (l.map fun i => D.int (i : Nat)) (l.map fun i => V.int (0 + (i : Nat))) := by
    intro l
    induction l with
    | nil => exact .nil
    | cons i l ih =>
      refine .cons ?_ ih
      show Rep ι m H (D.int (i : Nat)) (V.int (0 + (i : Nat)))
      rw [Int.zero_add]
      exact .int _
  exact all _
theorem sim_listRg {ta : TE} {fa : E} (ha : SimE W ta fa) : SimE W (tLstRg (tRg1 ta)) (eListRg fa) := by
  intro σ H ι ρ S H0 z S' Z N e Q hQ
  obtain ⟨x, S1, e1, e⟩ := bnd_eq e
  cases q : x.int with
  | none => rw [q] at e; cases e
  | some m =>
    rw [q] at e
    simp only [Option.bind_some] at e
    split at e
    · rename_i c
      cases e
      have := int_eq q
      subst this
      simp only [smallN, Bool.and_eq_true, decide_eq_true_eq] at c
      refine ha.then Z N e1 fun v1 H1 ι1 Z1 X1 N1 R1 => ?_
      cases R1
      refine ⟨m, rfl, RgOk.of_le (by omega) c.2 (by omega) c.1, fun p hp => ?_⟩
      exact new_lst Z1 hp reps_range fun v H3 Z3 X3 R3 => hQ v H3 ι1 Z3 (X1.trans X3 Z1) (R3.back2 X1 Z1)
    · cases e
theorem sim_tupRg {ta : TE} {fa : E} (ha : SimE W ta fa) : SimE W (tTupRg (tRg1 ta)) (eTupRg fa) := by
  intro σ H ι ρ S H0 z S' Z N e Q hQ
  obtain ⟨x, S1, e1, e⟩ := bnd_eq e
  cases q : x.int with
  | none => rw [q] at e; cases e
  | some m =>
    rw [q] at e
    simp only [Option.bind_some] at e
    split at e
    · rename_i c
      cases e
      have := int_eq q
      subst this
      simp only [smallN, Bool.and_eq_true, decide_eq_true_eq] at c
      refine ha.then Z N e1 fun v1 H1 ι1 Z1 X1 N1 R1 => ?_
      cases R1
      refine ⟨m, rfl, RgOk.of_le (by omega) c.2 (by omega) c.1, fun p hp => ?_⟩
      exact new_tup Z1 hp reps_range fun v H3 Z3 X3 R3 => hQ v H3 ι1 Z3 (X1.trans X3 Z1) (R3.back2 X1 Z1)
    · cases e

/-! ### displays -/
def flats : List R → Option (List D)
  | [] => some []
  | .v d :: rs => (flats rs).map (d :: ·)
  | _ :: _ => none
theorem flats_reps : ∀ {rs : List R} {ds : List D} {vs : List V}, flats rs = some ds → All2 (RR W H0 ι n H) rs vs → Reps ι n H ds vs
  | [], _, _, e, h => by cases e; cases h; exact .nil
  | r :: rs, ds, _, e, h => by
    cases r with
    | v d =>
      unfold flats at e
      cases q : flats rs with
      | none => rw [q] at e; cases e
      | some es =>
        rw [q] at e
        cases e
        cases h with
        | cons h1 h2 => exact .cons h1 (flats_reps q h2)
    | _ => cases e
/-- a tuple, a list of written items -/
def eTup (fs : List E) : E := fun ρ S => bnd (eArgs fs ρ S) fun rs S1 => (flats rs).bind fun ds => if ds.length ≤ cap then some (.v (.tup ds), S1) else none
def eLst (fs : List E) : E := fun ρ S => bnd (eArgs fs ρ S) fun rs S1 => (flats rs).bind fun ds => if ds.length ≤ cap then some (.l ds, S1) else none
theorem sim_tup {t : TA} {fs : List E} (ha : SimA W t fs) : SimE W (tTup t) (eTup fs) := by
  intro σ H ι ρ S H0 z S' Z N e Q hQ
  obtain ⟨rs, S1, e1, e⟩ := bnd_eq e
  cases q : flats rs with
  | none => rw [q] at e; cases e
  | some ds =>
    rw [q] at e
    simp only [Option.bind_some] at e
    split at e
    · rename_i c
      cases e
      refine ha σ H ι ρ S H0 rs S' Z N e1 _ fun vs H1 ι1 Z1 X1 R1 => ?_
      have r := flats_reps q R1
      refine ⟨by rw [← r.length, ← cap_eq]; exact c, fun p hp => ?_⟩
      exact new_tup Z1 hp r fun v H3 Z3 X3 R3 => hQ v H3 ι1 Z3 (X1.trans X3 Z1) (R3.back2 X1 Z1)
    · cases e
theorem sim_lst {t : TA} {fs : List E} (ha : SimA W t fs) : SimE W (tLst t) (eLst fs) := by
  intro σ H ι ρ S H0 z S' Z N e Q hQ
  obtain ⟨rs, S1, e1, e⟩ := bnd_eq e
  cases q : flats rs with
  | none => rw [q] at e; cases e
  | some ds =>
    rw [q] at e
    simp only [Option.bind_some] at e
    split at e
    · rename_i c
      cases e
      refine ha σ H ι ρ S H0 rs S' Z N e1 _ fun vs H1 ι1 Z1 X1 R1 => ?_
      have r := flats_reps q R1
      refine ⟨by rw [← r.length, ← cap_eq]; exact c, fun p hp => ?_⟩
      exact new_lst Z1 hp r fun v H3 Z3 X3 R3 => hQ v H3 ι1 Z3 (X1.trans X3 Z1) (R3.back2 X1 Z1)
    · cases e
/-- a pair of results -/
def ePair (fa fb : E) : E := fun ρ S => bnd (fa ρ S) fun x S1 => bnd (fb ρ S1) fun y S2 => match x, y with
  | .v a, .v b => some (.v (.tup [a, b]), S2)
  | .l a, .v b => some (.pr (.l a) (.v b), S2)
  | .v a, .l b => some (.pr (.v a) (.l b), S2)
  | .l a, .l b => some (.pr (.l a) (.l b), S2)
  | _, _ => none
theorem sim_pair {ta tb : TE} {fa fb : E} (ha : SimE W ta fa) (hb : SimE W tb fb) : SimE W (tTup (tCons ta (tCons tb tNil))) (ePair fa fb) := by
  intro σ H ι ρ S H0 z S' Z N e Q hQ
  obtain ⟨x, S1, e1, e⟩ := bnd_eq e
  obtain ⟨y, S2, e2, e⟩ := bnd_eq e
  have fin : ∀ (hz : S2 = S') (v1 : V) (H1 : Hp) (ι1 : Nat → Addr) (v2 : V) (H2 : Hp) (ι2 : Nat → Addr), RSt W ι1 H1 S1 → Ext ι S.length H ι1 S1.length H1 → RR W H ι1 S1.length H1 x v1 → RSt W ι2 H2 S2 → Ext ι1 S1.length H1 ι2 S2.length H2 → RR W H1 ι2 S2.length H2 y v2 →
      ((z = .pr x y ∧ (v1 = v2 → (∃ d, x = .v d) ∨ ∃ d, y = .v d)) ∨ ∃ a b, x = .v a ∧ y = .v b ∧ z = .v (.tup [a, b])) → ∀ p, H2 p = none → Q (.ref p) (upd H2 p (.tup [v1, v2])) := by
    intro hz v1 H1 ι1 v2 H2 ι2 Z1 X1 R1 Z2 X2 R2 h p hp
    subst hz
    have X12 := X1.trans X2 Z1
    have X3 : Ext ι2 S2.length H2 ι2 S2.length (upd H2 p (.tup [v1, v2])) := Ext.upd hp
    rcases h with ⟨rfl, hs⟩ | ⟨a, b, rfl, rfl, rfl⟩
    · refine hQ _ _ ι2 (Z2.upd hp) (X12.trans X3 Z2) ⟨p, v1, v2, rfl, upd_same, ?_, ?_, hs⟩
      · exact (R1.ext X2 Z1).ext X3 Z2
      · exact (R2.back2 X1 Z1).ext X3 Z2
    · refine hQ _ _ ι2 (Z2.upd hp) (X12.trans X3 Z2) (.tup upd_same (.cons ?_ (.cons ?_ .nil)))
      · exact Rep.ext X3 Z2 (show Rep ι2 S2.length H2 a v1 from R1.ext X2 Z1)
      · exact Rep.ext X3 Z2 (show Rep ι2 S2.length H2 b v2 from R2)
  refine ha.then Z N e1 fun v1 H1 ι1 Z1 X1 N1 R1 => hb.then Z1 N1 e2 fun v2 H2 ι2 Z2 X2 N2 R2 => ⟨by show 2 ≤ sizeLine; decide, ?_⟩
  split at e
  · cases e
    exact fin rfl v1 H1 ι1 v2 H2 ι2 Z1 X1 R1 Z2 X2 R2 (.inr ⟨_, _, rfl, rfl, rfl⟩)
  · cases e
    exact fin rfl v1 H1 ι1 v2 H2 ι2 Z1 X1 R1 Z2 X2 R2 (.inl ⟨rfl, fun _ => .inr ⟨_, rfl⟩⟩)
  · cases e
    exact fin rfl v1 H1 ι1 v2 H2 ι2 Z1 X1 R1 Z2 X2 R2 (.inl ⟨rfl, fun _ => .inl ⟨_, rfl⟩⟩)
  · cases e
    refine fin rfl v1 H1 ι1 v2 H2 ι2 Z1 X1 R1 Z2 X2 R2 (.inl ⟨rfl, fun q => ?_⟩)
    exfalso
    obtain ⟨a, vs, h1, h2, _⟩ := R1
    obtain ⟨b, ws, h3, _, _, h4, _⟩ := R2
    rw [h1, h3] at q
    cases q
    rw [h2] at h4
    cases h4
  · cases e
end
end Ev

set_option Elab.async false
set_option linter.all false
set_option maxRecDepth 100000
set_option maxHeartbeats 4000000
/-! Boxes, calls, objects. -/
namespace Ev
open PySem L2

section
variable {W : Wd} {ι ι' : Nat → Addr} {n : Nat} {H H' H0 : Hp} {S S' : Store} {ρ : Env} {σ : St}

/-! ### a thing just made comes to the store -/
def boxed (r : R) (S : Store) : Option (R × Store) := match r with
  | .v d => some (.v d, S)
  | .l xs => some (.v (.ob S.length), S ++ [.lst xs])
  | .d k kvs => some (.v (.ob S.length), S ++ [.dic k kvs])
  | _ => none
def eBox (f : E) : E := fun ρ S => bnd (f ρ S) boxed
def addι (ι : Nat → Addr) (n : Nat) (a : Addr) : Nat → Addr := fun h => if h = n then a else ι h
theorem addι_same {a : Addr} : addι ι n a n = a := if_pos rfl
theorem addι_lt {a : Addr} {h : Nat} (hh : h < n) : addι ι n a h = ι h := if_neg (by omega)
/-- one more object of the store, at an address of none -/
theorem RSt.add {o : Ob} {a : Addr} (Z : RSt W ι H S) (ho : RepO W (addι ι S.length a) (S.length + 1) H a o) (ha : ∀ h, h < S.length → a ≠ ι h) : RSt W (addι ι S.length a) H (S ++ [o]) := by
  have hl : (S ++ [o]).length = S.length + 1 := by simp
  refine ⟨fun h u e => ?_, fun i j hi hj e => ?_⟩
  · rw [hl]
    by_cases hh : h < S.length
    · rw [List.getElem?_append_left hh] at e
      rw [addι_lt hh]
      exact (Z.at_ h u e).mono (Nat.le_succ _) (fun k hk => addι_lt hk) (fun _ _ q => q) fun _ q => q
    · have hx := (List.getElem?_eq_some_iff.mp e).1
      rw [hl] at hx
      have eh : h = S.length := by omega
      subst eh
      have e2 : (S ++ [o])[S.length]? = some o := by simp
      rw [e2] at e
      cases e
      rw [addι_same]
      exact ho
  · rw [hl] at hi hj
    by_cases h1 : i < S.length <;> by_cases h2 : j < S.length
    · rw [addι_lt h1, addι_lt h2] at e
      exact Z.inj i j h1 h2 e
    · have ej : j = S.length := by omega
      subst ej
      rw [addι_lt h1, addι_same] at e
      exact absurd e.symm (ha i h1)
    · have ei : i = S.length := by omega
      subst ei
      rw [addι_lt h2, addι_same] at e
      exact absurd e (ha j h2)
    · omega
theorem Ext.add {a : Addr} {S0 : Store} {ι0 : Nat → Addr} (X : Ext ι0 S0.length H0 ι n H) (h0 : H0 a = none) : Ext ι0 S0.length H0 (addι ι n a) (n + 1) H where
  le := Nat.le_trans X.le (Nat.le_succ _)
  same := fun h hh => by rw [addι_lt (Nat.lt_of_lt_of_le hh X.le)]; exact X.same h hh
  keep := X.keep
  new := fun h h1 h2 => by
    by_cases hh : h < n
    · rw [addι_lt hh]; exact X.new h h1 hh
    · have e : h = n := by omega
      rw [e, addι_same]; exact h0
theorem sim_box {t : TE} {f : E} (h : SimE W t f) : SimE W t (eBox f) := by
  intro σ H ι ρ S H0 z S' Z N e Q hQ
  obtain ⟨x, S1, e1, e⟩ := bnd_eq e
  unfold boxed at e
  split at e
  · cases e
    exact h.then Z N e1 fun v1 H1 ι1 Z1 X1 N1 R1 => hQ v1 H1 ι1 Z1 X1 R1
  · rename_i xs
    cases e
    refine h.then Z N e1 fun v1 H1 ι1 Z1 X1 N1 R1 => ?_
    obtain ⟨a, vs, rfl, h1, h2, h3, h4⟩ := R1
    have Z2 := Z1.add (o := .lst xs) (a := a) ⟨vs, h1, Reps.mono (Nat.le_succ _) (fun k hk => addι_lt hk) (fun _ _ q => q) _ _ h2⟩ h4
    have X2 := X1.add h3
    refine hQ _ H1 _ Z2 (by simpa using X2) ?_
    have r : Rep (addι ι1 S1.length a) (S1.length + 1) H1 (.ob S1.length) (.ref (addι ι1 S1.length a S1.length)) := .ob (Nat.lt_succ_self _)
    rw [addι_same] at r
    show Rep _ _ _ _ _
    simpa using r
  · rename_i k kvs
    cases e
    refine h.then Z N e1 fun v1 H1 ι1 Z1 X1 N1 R1 => ?_
    obtain ⟨a, rfl, h1, h3, h4⟩ := R1
    have Z2 := Z1.add (o := .dic k kvs) (a := a) (h1.mono (Nat.le_succ _) (fun k hk => addι_lt hk) (fun _ _ q => q) (fun _ q => q)) h4
    have X2 := X1.add h3
    refine hQ _ H1 _ Z2 (by simpa using X2) ?_
    have r : Rep (addι ι1 S1.length a) (S1.length + 1) H1 (.ob S1.length) (.ref (addι ι1 S1.length a S1.length)) := .ob (Nat.lt_succ_self _)
    rw [addι_same] at r
    show Rep _ _ _ _ _
    simpa using r
  · cases e
/-- {} of a kind -/
def eDNew (k : DK) : E := fun _ S => some (.d k [], S)
theorem sim_dnewK : SimE W tDNewK (eDNew .K) := by
  intro σ H ι ρ S H0 z S' Z N e Q hQ
  cases e
  intro p hp
  exact hQ _ _ ι (Z.upd hp) (Ext.upd hp) ⟨p, rfl, ⟨[], upd_same, .nil⟩, hp, Z.ne_new hp⟩
theorem sim_dnewT : SimE W tDNewT (eDNew .T) := by
  intro σ H ι ρ S H0 z S' Z N e Q hQ
  cases e
  intro p hp
  exact hQ _ _ ι (Z.upd hp) (Ext.upd hp) ⟨p, rfl, ⟨[], upd_same, .nil⟩, hp, Z.ne_new hp⟩
def tDNewN : TE := fun _ H Q => ∀ p, H p = none → (p == sysModules) = false → Q (.ref p) (upd H p (.ext (dictN p [])))
theorem pe_dnewN {X : Cx} {pos : Pos} : PE X (.Dict [] [] pos) tDNewN := ⟨fun pins s σ H Q I h => by
  have hp := I.hok.fresh (Nat.le_refl s.heap.objs.size)
  have hs : (s.heap.objs.size == sysModules) = false := beq_eq_false_iff_ne.mpr (Ne.symm (Nat.ne_of_lt I.big))
  refine wpAny_Dict_empty ⟨.ref s.heap.objs.size, _, I.laid (a := s.heap.objs.size) (o := .ext (dictN s.heap.objs.size [])) (t' := s.toks) (fun _ _ q => Heap.get?_push_of_some _ q) (Nat.le_refl _) ?_, rfl, h _ hp hs⟩
  refine ⟨⟨_, #[], 0, Heap.get?_push_size _ rfl, ⟨rfl, rfl, rfl⟩, rfl, rfl⟩, ⟨_, Heap.get?_push_size _ rfl⟩, fun h1 h2 q k => ?_⟩
  obtain ⟨o, es, ep, q1, q2⟩ := q
  exact ⟨o, es, ep, k o q1, q2⟩⟩
theorem sim_dnewN : SimE W tDNewN (eDNew .N) := by
  intro σ H ι ρ S H0 z S' Z N e Q hQ
  cases e
  intro p hp hs
  exact hQ _ _ ι (Z.upd hp) (Ext.upd hp) ⟨p, rfl, ⟨[], upd_same, List.nodup_nil, Nat.zero_le _, hs, .nil⟩, hp, Z.ne_new hp⟩

/-! ### calls -/
/-- a def's promise: what its run gives -/
def spOf (W : Wd) (m : Nat) (run : Ru) : Sp := fun vs H Q _ => vs.length = m ∧ ∃ (ι : Nat → Addr) (S : Store) (Ha : Hp) (rs : List R) (r : R) (S' : Store), RSt W ι H S ∧ All2 (RR W Ha ι S.length H) rs vs ∧ run rs S = some (r, S') ∧
  ∀ v H' ι', RSt W ι' H' S' → Ext ι S.length H ι' S'.length H' → RR W H ι' S'.length H' r v → Q v H'
def dV : D → V
  | .int i => .int i
  | .bl b => .bl b
  | .str s => .str s
  | _ => .non
def isDfl : D → Bool
  | .int _ => true
  | .bl _ => true
  | .str _ => true
  | .non => true
  | _ => false
theorem dfl_rep {d : D} (h : isDfl d = true) : RR W H0 ι n H (.v d) (dV d) := by
  cases d <;> first | (cases h; done) | exact .non | exact .bl _ | exact .int _ | exact .str _
theorem dfls_rep : ∀ {ds : List D}, ds.all isDfl = true → All2 (RR W H0 ι n H) (ds.map R.v) (ds.map dV)
  | [], _ => .nil
  | d :: ds, h => by
    rw [List.all_cons, Bool.and_eq_true] at h
    exact .cons (dfl_rep h.1) (dfls_rep h.2)
/-- run of the callee; ar: how many arguments, with the defaults -/
def eCall (run : Ru) (dfl : List D) (fs : List E) : E := fun ρ S => bnd (eArgs fs ρ S) fun rs S1 => run (rs ++ dfl.map R.v) S1
theorem eArgs_len : ∀ {fs : List E} {ρ : Env} {S : Store} {rs : List R} {S' : Store}, eArgs fs ρ S = some (rs, S') → rs.length = fs.length
  | [], _, _, _, _, h => by cases h; rfl
  | f :: fs, ρ, S, rs, S', h => by
    obtain ⟨x, S1, e1, e⟩ := bnd_eq h
    obtain ⟨xs, S2, e2, e⟩ := bnd_eq e
    cases e
    simp [eArgs_len e2]
theorem sim_call {t : TA} {fs : List E} {run : Ru} {m : Nat} {dfl : List D} {E : XK} (ha : SimA W t fs) (hm : fs.length + dfl.length = m) (hd : dfl.all isDfl = true) : SimE W (tCall (spOf W m run) (dfl.map dV) E t) (eCall run dfl fs) := by
  intro σ H ι ρ S H0 z S' Z N e Q hQ
  obtain ⟨rs, S1, e1, e⟩ := bnd_eq e
  refine ha σ H ι ρ S H0 rs S1 Z N e1 _ fun vs H1 ι1 Z1 X1 R1 => ?_
  refine ⟨?_, ι1, S1, H, rs ++ dfl.map R.v, z, S', Z1, R1.append (dfls_rep hd), e, fun v H2 ι2 Z2 X2 R2 => ?_⟩
  · rw [List.length_append, List.length_map, ← R1.length, eArgs_len e1]; exact hm
  · exact hQ v H2 ι2 Z2 (X1.trans X2 Z1) (R2.back2 X1 Z1)
/-- o.m(..): the class of o tells which def -/
def eMeth (tab : List (Nat × Ru)) (fa : E) (fs : List E) : E := fun ρ S => bnd (fa ρ S) fun x S1 => match x with
  | .v (.ob h) => (match S1[h]? with
    | some (.ins c _) => (match tab.lookup c with
      | some run => bnd (eArgs fs ρ S1) fun rs S2 => run (.v (.ob h) :: rs) S2
      | none => none)
    | _ => none)
  | _ => none
theorem flds_none {fs : List (Nat × D)} {vs : List (Str × V)} {m : Str} (h : FldsR W ι n H fs vs) (hm : m ∉ W.FN) : vs.lookup m = none := by
  unfold FldsR at h
  induction h with
  | nil => rfl
  | @cons p q ps qs hp t ih =>
    rw [List.lookup_cons]
    have : ¬ (m == q.1) = true := fun z => hm (by
      have e : m = q.1 := by simpa using z
      rw [e]
      exact List.mem_of_getElem? hp.1)
    simp only [this]
    exact ih
/-- the reading: one of the classes -/
def tMeths (W : Wd) (m : Str) (ar : Nat) (ta : TE) (t : TA) (E : XK) : List (Nat × Ru) → TE
  | [] => fun _ _ _ => False
  | (c, run) :: r => fun σ H Q => tMeth (W.CA c) m (spOf W ar run) [] E ta t σ H Q ∨ tMeths W m ar ta t E r σ H Q
theorem meths_of {m : Str} {ar : Nat} {ta : TE} {t : TA} {E : XK} {c : Nat} {run : Ru} {Q : VK} : ∀ {tab : List (Nat × Ru)}, tab.lookup c = some run → tMeth (W.CA c) m (spOf W ar run) [] E ta t σ H Q → tMeths W m ar ta t E tab σ H Q
  | [], h, _ => by cases h
  | (d, ru) :: r, h, q => by
    rw [List.lookup_cons] at h
    by_cases e : (c == d) = true
    · rw [e] at h
      cases h
      have : c = d := by simpa using e
      subst this
      exact .inl q
    · have e' : (c == d) = false := by simpa using e
      rw [e'] at h
      exact .inr (meths_of h q)
theorem sim_meth {ta : TE} {fa : E} {t : TA} {fs : List E} {tab : List (Nat × Ru)} {m : Str} {ar : Nat} {E : XK} (ha : SimE W ta fa) (hs : SimA W t fs) (hm : fs.length + 1 = ar) (hn : m ∉ W.FN) : SimE W (tMeths W m ar ta t E tab) (eMeth tab fa fs) := by
  intro σ H ι ρ S H0 z S' Z N e Q hQ
  obtain ⟨x, S1, e1, e⟩ := bnd_eq e
  split at e
  · rename_i h
    split at e
    · rename_i c fl q
      split at e
      · rename_i run q2
        obtain ⟨rs, S2, e2, e⟩ := bnd_eq e
        refine meths_of q2 (ha.then Z N e1 fun v1 H1 ι1 Z1 X1 N1 R1 => ?_)
        have R1' : Rep ι1 S1.length H1 (.ob h) v1 := R1
        cases R1' with
        | ob hh =>
          obtain ⟨dx, vs, o1, o2⟩ := Z1.at_ h _ q
          refine ⟨_, dx, vs, rfl, o1, flds_none o2 hn, ?_⟩
          refine hs σ H1 ι1 ρ S1 H0 rs S2 Z1 N1 e2 _ fun ws H2 ι2 Z2 X2 R2 => ?_
          refine ⟨?_, ι2, S2, H1, .v (.ob h) :: rs, z, S', Z2, ?_, e, fun v H3 ι3 Z3 X3 R3 => ?_⟩
          · rw [List.append_nil, List.length_cons, ← R2.length, eArgs_len e2]; exact hm
          · rw [List.append_nil]
            refine .cons ?_ R2
            have r : Rep ι2 S2.length H2 (.ob h) (.ref (ι2 h)) := .ob (Nat.lt_of_lt_of_le hh X2.le)
            rw [X2.same h hh] at r
            exact r
          · have X12 := X1.trans X2 Z1
            exact hQ v H3 ι3 Z3 (X12.trans X3 Z2) (R3.back2 X12 Z2)
      · cases e
    · cases e
  · cases e
/-- C(..) -/
def eMk (c : Nat) (init : Ru) (fs : List E) : E := fun ρ S => bnd (eArgs fs ρ S) fun rs S1 => bnd (init (.v (.ob S1.length) :: rs) (S1 ++ [.ins c []])) fun x S2 => match x with
  | .v .non => some (.v (.ob S1.length), S2)
  | _ => none
theorem sim_mk {t : TA} {fs : List E} {init : Ru} {c m : Nat} {E : XK} (ha : SimA W t fs) (hm : fs.length + 1 = m) : SimE W (tMake (W.CA c) (spOf W m init) [] E t) (eMk c init fs) := by
  intro σ H ι ρ S H0 z S' Z N e Q hQ
  obtain ⟨rs, S1, e1, e⟩ := bnd_eq e
  obtain ⟨x, S2, e2, e⟩ := bnd_eq e
  split at e
  · cases e
    refine ha σ H ι ρ S H0 rs S1 Z N e1 _ fun vs H1 ι1 Z1 X1 R1 => ?_
    intro x dx hx hdx hne
    have hx2 : (upd H1 dx (.own x)) x = none := by rw [upd_ne (Ne.symm hne)]; exact hx
    have Z2 := (Z1.upd (o := .own x) hdx).upd (o := .ins (W.CA c) dx []) hx2
    have XA : Ext ι1 S1.length H1 ι1 S1.length (upd H1 dx (.own x)) := Ext.upd hdx
    have XB : Ext ι1 S1.length (upd H1 dx (.own x)) ι1 S1.length (upd (upd H1 dx (.own x)) x (.ins (W.CA c) dx [])) := Ext.upd hx2
    have XAB := XA.trans XB (Z1.upd (o := .own x) hdx)
    have Z3 := Z2.add (o := .ins c []) (a := x) ⟨dx, [], upd_same, .nil⟩ (Z1.ne_new hx)
    have XC : Ext ι1 S1.length H1 (addι ι1 S1.length x) (S1.length + 1) (upd (upd H1 dx (.own x)) x (.ins (W.CA c) dx [])) := XAB.add hx
    have X1C : Ext ι S.length H (addι ι1 S1.length x) (S1 ++ [Ob.ins c []]).length (upd (upd H1 dx (.own x)) x (.ins (W.CA c) dx [])) := by
      have q := X1.trans XC Z1
      simpa using q
    refine ⟨?_, addι ι1 S1.length x, S1 ++ [.ins c []], H, .v (.ob S1.length) :: rs, .v .non, S', Z3, ?_, e2, fun v H3 ι3 Z4 X4 R4 => ?_⟩
    · rw [List.append_nil, List.length_cons, ← R1.length, eArgs_len e1]; exact hm
    · rw [List.append_nil]
      refine .cons ?_ ?_
      · have r : Rep (addι ι1 S1.length x) (S1.length + 1) (upd (upd H1 dx (.own x)) x (.ins (W.CA c) dx [])) (.ob S1.length) (.ref (addι ι1 S1.length x S1.length)) := .ob (Nat.lt_succ_self _)
        rw [addι_same] at r
        show Rep _ _ _ _ _
        simpa using r
      · refine R1.mono fun r v q => ?_
        have q2 := RR.ext XC Z1 r v q
        simpa using q2
    · cases R4
      refine ⟨rfl, hQ _ H3 ι3 Z4 (X1C.trans X4 Z3) ?_⟩
      have hl : S1.length < (S1 ++ [Ob.ins c []]).length := by simp
      have r : Rep ι3 S'.length H3 (.ob S1.length) (.ref (ι3 S1.length)) := .ob (Nat.lt_of_lt_of_le hl X4.le)
      rw [X4.same _ hl, addι_same] at r
      exact r
  · cases e

/-! ### o.f -/
/-- what the classes are -/
structure WOk (W : Wd) : Prop where
  cl : ∀ c, Cls W.K (W.CA c)
  na : ∀ c f, f ∈ W.FN → NoAttr W.K (W.CA c) f
  nd : W.FN.Nodup
theorem flds_look {fs : List (Nat × D)} {vs : List (Str × V)} {i : Nat} {d : D} {f : Str} (nd : W.FN.Nodup) (h : FldsR W ι n H fs vs) (hf : W.FN[i]? = some f) (e : fs.lookup i = some d) : ∃ v, vs.lookup f = some v ∧ Rep ι n H d v := by
  unfold FldsR at h
  induction h with
  | nil => cases e
  | @cons p q ps qs hp t ih =>
    rw [List.lookup_cons] at e ⊢
    by_cases hi : i = p.1
    · have e1 : (i == p.1) = true := by simp [hi]
      have e2 : f = q.1 := by
        have := hp.1
        rw [← hi, hf] at this
        exact Option.some.inj this
      have e3 : (f == q.1) = true := by simp [e2]
      rw [e1] at e
      cases e
      rw [e3]
      exact ⟨_, rfl, hp.2⟩
    · have e1 : (i == p.1) = false := by simp [hi]
      have e3 : (f == q.1) = false := by
        refine beq_eq_false_iff_ne.mpr fun z => hi ?_
        have h1 := hp.1
        rw [← z] at h1
        exact nodup_ix nd hf h1
      rw [e1] at e
      rw [e3]
      exact ih e
def eAttr (i : Nat) (fa : E) : E := fun ρ S => bnd (fa ρ S) fun x S1 => match x with
  | .v (.ob h) => (match S1[h]? with
    | some (.ins _ fs) => (fs.lookup i).map fun d => (.v d, S1)
    | _ => none)
  | _ => none
theorem sim_attr {ta : TE} {fa : E} {i : Nat} {f : Str} (wo : WOk W) (hf : W.FN[i]? = some f) (ha : SimE W ta fa) : SimE W (tFld W.K ta f) (eAttr i fa) := by
  intro σ H ι ρ S H0 z S' Z N e Q hQ
  obtain ⟨x, S1, e1, e⟩ := bnd_eq e
  split at e
  · rename_i h
    split at e
    · rename_i c fs q
      cases q2 : fs.lookup i with
      | none => rw [q2] at e; cases e
      | some d =>
        rw [q2] at e
        cases e
        refine ha.then Z N e1 fun v1 H1 ι1 Z1 X1 N1 R1 => ?_
        have R1' : Rep ι1 S'.length H1 (.ob h) v1 := R1
        cases R1' with
        | ob hh =>
          obtain ⟨dx, vs, o1, o2⟩ := Z1.at_ h _ q
          obtain ⟨v, o3, o4⟩ := flds_look wo.nd o2 hf q2
          exact ⟨_, _, dx, vs, v, rfl, o1, wo.cl c, wo.na c f (List.mem_of_getElem? hf), o3, hQ v H1 ι1 Z1 X1 o4⟩
    · cases e
  · cases e

/-! ### [a, b, c][i] -/
def ePick (fs : List E) (fb : E) : E := fun ρ S => bnd (eArgs fs ρ S) fun rs S1 => bnd (fb ρ S1) fun y S2 => y.int.bind fun i => if rs.length ≤ cap then (atI rs i).map fun r => (r, S2) else none
theorem all2_atI {F : R → V → Prop} {rs : List R} {vs : List V} {i : Int} {r : R} (h : All2 F rs vs) (e : atI rs i = some r) : ∃ v, atI vs i = some v ∧ F r v := by
  unfold atI at e ⊢
  rw [← h.length]
  cases q : ixN rs.length i with
  | none => rw [q] at e; cases e
  | some j =>
    rw [q] at e
    exact h.get e
theorem sim_pick {t : TA} {fs : List E} {tb : TE} {fb : E} (ha : SimA W t fs) (hb : SimE W tb fb) : SimE W (tIxA W.K (tLst t) tb) (ePick fs fb) := by
  intro σ H ι ρ S H0 z S' Z N e Q hQ
  obtain ⟨rs, S1, e1, e⟩ := bnd_eq e
  obtain ⟨y, S2, e2, e⟩ := bnd_eq e
  cases q : y.int with
  | none => rw [q] at e; cases e
  | some i =>
    rw [q] at e
    simp only [Option.bind_some] at e
    split at e
    · rename_i c
      cases q2 : atI rs i with
      | none => rw [q2] at e; cases e
      | some r =>
        rw [q2] at e
        cases e
        have := int_eq q
        subst this
        refine .inl (ha σ H ι ρ S H0 rs S1 Z N e1 _ fun vs H1 ι1 Z1 X1 R1 => ⟨by rw [← R1.length, ← cap_eq]; exact c, fun p hp => ?_⟩)
        have Z2 := Z1.upd (o := .lst vs) hp
        have XP : Ext ι1 S1.length H1 ι1 S1.length (upd H1 p (.lst vs)) := Ext.upd hp
        have X12 := X1.trans XP Z1
        refine hb.then Z2 (N.ext X12 Z) e2 fun v2 H2 ι2 Z3 X3 N3 R3 => ?_
        cases R3
        have hp2 : H2 p = some (.lst vs) := X3.keep p _ upd_same (Z1.ne_new hp)
        obtain ⟨v, h1, h2⟩ := all2_atI R1 q2
        refine .inl ⟨p, vs, i, v, rfl, rfl, .of hp2, h1, hQ v H2 ι2 Z3 (X12.trans X3 Z2) ?_⟩
        exact (h2.ext XP Z1).ext X3 Z2
    · cases e
end
end Ev

set_option Elab.async false
set_option linter.all false
set_option maxRecDepth 100000
set_option maxHeartbeats 4000000
/-! Slots set and wiped, targets, walks, comprehensions. -/
namespace Ev
open PySem L2

section
variable {W : Wd} {ι ι' ι1 : Nat → Addr} {n n' : Nat} {H H' H0 H1 : Hp} {S S' S1 : Store} {ρ : Env} {σ : St}

/-! ### slots -/
theorem get_set {α : Type} {l : List α} {i j : Nat} {x y : α} (h : (l.set i x)[j]? = some y) : (j = i ∧ y = x) ∨ (j ≠ i ∧ l[j]? = some y) := by
  by_cases e : j = i
  · subst e
    have hl := (List.getElem?_eq_some_iff.mp h).1
    rw [List.length_set] at hl
    rw [List.getElem?_set_self hl] at h
    exact .inl ⟨rfl, (Option.some.inj h).symm⟩
  · rw [List.getElem?_set_ne (Ne.symm e)] at h
    exact .inr ⟨e, h⟩
theorem REnv.setS (N : REnv W H0 ι n H ρ σ) (i : Nat) {s : Sl} {o : Option V} (ok : SlOk W H0 ι n H o s)
    (h1 : ∀ (j : Nat) t a, j ≠ i → ρ[j]? = some t → s.own = true → t.lends = true → o = some (.ref a) → σ[j]? ≠ some (some (.ref a)))
    (h2 : ∀ (j : Nat) t a, j ≠ i → ρ[j]? = some t → t.own = true → s.lends = true → o = some (.ref a) → σ[j]? ≠ some (some (.ref a))) : REnv W H0 ι n H (ρ.set i s) (σ.set i o) := by
  refine ⟨by rw [List.length_set, List.length_set]; exact N.len, fun j t u e1 e2 => ?_, fun j k s1 t1 a hjk e1 e2 o1 o2 e3 e4 => ?_⟩
  · rcases get_set e1 with ⟨rfl, rfl⟩ | ⟨hj, e1⟩
    · rcases get_set e2 with ⟨_, rfl⟩ | ⟨hj, _⟩
      · exact ok
      · exact absurd rfl hj
    · rcases get_set e2 with ⟨q, _⟩ | ⟨_, e2⟩
      · exact absurd q hj
      · exact N.at_ j t u e1 e2
  · rcases get_set e1 with ⟨rfl, rfl⟩ | ⟨hj, e1'⟩
    · rcases get_set e2 with ⟨q, _⟩ | ⟨hk, e2'⟩
      · exact hjk q.symm
      · rcases get_set e3 with ⟨_, q3⟩ | ⟨q, _⟩
        · rcases get_set e4 with ⟨q, _⟩ | ⟨_, e4⟩
          · exact hk q
          · exact h1 k t1 a hk e2' o1 o2 q3.symm e4
        · exact q rfl
    · rcases get_set e3 with ⟨q, _⟩ | ⟨_, e3'⟩
      · exact hj q
      · rcases get_set e2 with ⟨rfl, rfl⟩ | ⟨hk, e2'⟩
        · rcases get_set e4 with ⟨_, q4⟩ | ⟨q, _⟩
          · exact h2 j s1 a hj e1' o1 o2 q4.symm e3'
          · exact q rfl
        · rcases get_set e4 with ⟨q, _⟩ | ⟨_, e4⟩
          · exact hk q
          · exact N.sep j k s1 t1 a hjk e1' e2' o1 o2 e3' e4
theorem REnv.setV (N : REnv W H0 ι n H ρ σ) (i : Nat) {d : D} {v : V} (r : Rep ι n H d v) : REnv W H0 ι n H (ρ.set i (.v d)) (σ.set i (some v)) :=
  N.setS i ⟨v, rfl, r⟩ (fun _ _ _ _ _ q _ _ => by cases q) (fun _ _ _ _ _ _ q _ => by cases q)
theorem REnv.unset (N : REnv W H0 ι n H ρ σ) (i : Nat) (o : Option V) : REnv W H0 ι n H (ρ.set i .no) (σ.set i o) :=
  N.setS i trivial (fun _ _ _ _ _ q _ _ => by cases q) (fun _ _ _ _ _ _ q _ => by cases q)
def wipeE (ρ : Env) : List Nat → Env
  | [] => ρ
  | v :: vs => (wipeE ρ vs).set v .no
theorem REnv.wipe (N : REnv W H0 ι n H ρ σ) : ∀ vs : List Nat, REnv W H0 ι n H (wipeE ρ vs) (wipe σ vs)
  | [] => N
  | v :: vs => (REnv.wipe N vs).unset v none
theorem wipe_set {x : Option V} {i : Nat} : ∀ {vs : List Nat} {σ : St}, i ∈ vs → wipe (σ.set i x) vs = wipe σ vs
  | v :: vs, σ, h => by
    unfold L2.wipe
    by_cases e : i = v
    · subst e
      have all : ∀ {us : List Nat}, (wipe (σ.set i x) us).set i none = (wipe σ us).set i none := by
        intro us
        induction us with
        | nil => unfold L2.wipe; rw [List.set_set]
        | cons u us ih =>
          unfold L2.wipe
          by_cases q : u = i
          · subst q
            rw [ih]
          · rw [List.set_comm _ _ q, ih, List.set_comm _ _ q]
      exact all
    · rw [wipe_set ((List.mem_cons.mp h).resolve_left e)]

/-! ### targets -/
abbrev Tg := D → Env → Option Env
def SimG (W : Wd) (g : TG) (f : Tg) (js : List Nat) : Prop := ∀ (σ : St) (H : Hp) (ι : Nat → Addr) (ρ : Env) (S : Store) (H0 : Hp) (d : D) (v : V) (ρ' : Env),
  RSt W ι H S → REnv W H0 ι S.length H ρ σ → Rep ι S.length H d v → f d ρ = some ρ' → ∀ Q : St → Hp → Prop,
    (∀ σ', REnv W H0 ι S.length H ρ' σ' → (∀ vs : List Nat, (∀ j ∈ js, j ∈ vs) → wipe σ' vs = wipe σ vs) → Q σ' H) → g v σ H Q
def tgName (i : Nat) : Tg := fun d ρ => some (ρ.set i (.v d))
theorem simG_name {i : Nat} : SimG W (gName i) (tgName i) [i] := by
  intro σ H ι ρ S H0 d v ρ' Z N r e Q hQ
  cases e
  exact hQ _ (N.setV i r) fun vs h => wipe_set (h i (by simp))
def setAll : List Nat → List D → Env → Option Env
  | [], [], ρ => some ρ
  | i :: is, d :: ds, ρ => setAll is ds (ρ.set i (.v d))
  | _, _, _ => none
def tgTup (is : List Nat) : Tg := fun d ρ => match d with
  | .tup ds => setAll is ds ρ
  | _ => none
def gNames : List Nat → TGs
  | [] => gNil
  | i :: is => gCons (gName i) (gNames is)
theorem simG_names : ∀ {is : List Nat} {σ : St} {ρ ρ' : Env} {ds : List D} {vs : List V}, REnv W H0 ι n H ρ σ → Reps ι n H ds vs → setAll is ds ρ = some ρ' → ∀ Q : St → Hp → Prop,
    (∀ σ', REnv W H0 ι n H ρ' σ' → (∀ us : List Nat, (∀ j ∈ is, j ∈ us) → wipe σ' us = wipe σ us) → Q σ' H) → gNames is vs σ H Q
  | [], σ, ρ, ρ', ds, vs, N, r, e, Q, hQ => by
    cases ds with
    | nil => cases e; cases r; exact ⟨rfl, hQ _ N fun _ _ => rfl⟩
    | cons d ds => cases e
  | i :: is, σ, ρ, ρ', ds, vs, N, r, e, Q, hQ => by
    cases ds with
    | nil => cases e
    | cons d ds =>
      cases r with
      | cons r1 r2 =>
        refine ⟨_, _, rfl, simG_names (N.setV i r1) r2 e Q fun σ' N' h => hQ σ' N' fun us hu => ?_⟩
        rw [h us fun j hj => hu j (List.mem_cons_of_mem _ hj)]
        exact wipe_set (hu i List.mem_cons_self)
theorem setAll_len : ∀ {is : List Nat} {ds : List D} {ρ ρ' : Env}, setAll is ds ρ = some ρ' → is.length = ds.length
  | [], [], _, _, _ => rfl
  | [], _ :: _, _, _, h => by cases h
  | _ :: _, [], _, _, h => by cases h
  | _ :: is, _ :: ds, _, _, h => by simp [setAll_len (is := is) (ds := ds) h]
theorem simG_tup {K : PySem.W.Frag} {is : List Nat} : SimG W (gTup K is.length (gNames is)) (tgTup is) is := by
  intro σ H ι ρ S H0 d v ρ' Z N r e Q hQ
  unfold tgTup at e
  split at e
  · rename_i ds
    cases r with
    | tup h1 h2 => exact ⟨_, _, rfl, .of h1, by rw [← h2.length, setAll_len e], simG_names N h2 e Q hQ⟩
  · cases e

/-! ### an address of no object of the store is written -/
theorem RSt.updAt {a : Addr} {o u : HO} (Z : RSt W ι H S) (ha : ∀ h, h < S.length → a ≠ ι h) (hu : H a = some u) (nt : ∀ vs, u ≠ .tup vs) : RSt W ι (L2.upd H a o) S := by
  have keepT : ∀ b vs, H b = some (.tup vs) → (L2.upd H a o) b = some (.tup vs) := fun b vs q => by
    by_cases e : b = a
    · subst e
      rw [hu] at q
      exact absurd (Option.some.inj q) (nt vs)
    · rw [L2.upd_ne e]; exact q
  refine ⟨fun h ob e => ?_, Z.inj⟩
  have hh := (List.getElem?_eq_some_iff.mp e).1
  exact (Z.at_ h ob e).mono (Nat.le_refl _) (fun _ _ => rfl) keepT fun w q => by rw [L2.upd_ne (Ne.symm (ha h hh))]; exact q
theorem Ext.updNew {a : Addr} {o : HO} (X : Ext ι n H ι' n' H') (h : H a = none) : Ext ι n H ι' n' (L2.upd H' a o) :=
  ⟨X.le, X.same, fun b u e hb => by rw [L2.upd_ne (ne_of_none e h)]; exact X.keep b u e hb, X.new⟩
theorem Reps.updAt {a : Addr} {o u : HO} {ds : List D} {vs : List V} (r : Reps ι n H ds vs) (hu : H a = some u) (nt : ∀ vs, u ≠ .tup vs) : Reps ι n (L2.upd H a o) ds vs :=
  Reps.mono (Nat.le_refl _) (fun _ _ => rfl) (fun b ws q => by
    by_cases e : b = a
    · subst e
      rw [hu] at q
      exact absurd (Option.some.inj q) (nt ws)
    · rw [L2.upd_ne e]; exact q) _ _ r
theorem Rep.updAt {a : Addr} {o u : HO} {d : D} {v : V} (r : Rep ι n H d v) (hu : H a = some u) (nt : ∀ vs, u ≠ .tup vs) : Rep ι n (L2.upd H a o) d v := by
  have q : Reps ι n H [d] [v] := .cons r .nil
  cases q.updAt (o := o) hu nt with
  | cons r _ => exact r

/-! ### walks -/
inductive Src where
  | no
  | lst (h : Nat) (xs : List D)
  | dic (h : Nat) (kvs : List (D × D))
def Src.alive (S : Store) : Src → Bool
  | .no => true
  | .lst h xs => decide (S[h]? = some (.lst xs))
  | .dic h kvs => decide (S[h]? = some (.lck kvs))
/-- P: what must stand as it is for the walk -/
structure Walks (W : Wd) (J : It) (src : Src) (its : List D) (ι : Nat → Addr) (n : Nat) (P : Hp) : Prop where
  go : ∀ (i : Nat) (d : D) (ι' : Nat → Addr) (S' : Store) (H' : Hp), RSt W ι' H' S' → n ≤ S'.length → (∀ h, h < n → ι' h = ι h) → (∀ a o, P a = some o → H' a = some o) → src.alive S' = true → its[i]? = some d →
    J.go i H' ∧ ∀ x H2, J.yld i H' x H2 → RSt W ι' H2 S' ∧ Ext ι' S'.length H' ι' S'.length H2 ∧ Rep ι' S'.length H2 d x
  stop : ∀ (i : Nat) (ι' : Nat → Addr) (S' : Store) (H' : Hp), RSt W ι' H' S' → n ≤ S'.length → (∀ h, h < n → ι' h = ι h) → (∀ a o, P a = some o → H' a = some o) → src.alive S' = true → its.length ≤ i → J.stop i H'
/-- the items, where they stand, whether no slot of its own holds what is walked -/
abbrev Fi := Env → Store → Option ((List D × Src × Bool) × Store)
def SimI (W : Wd) (wi : TI) (f : Fi) : Prop := ∀ (σ : St) (H : Hp) (ι : Nat → Addr) (ρ : Env) (S : Store) (H0 : Hp) (its : List D) (src : Src) (ok : Bool) (S' : Store),
  RSt W ι H S → REnv W H0 ι S.length H ρ σ → f ρ S = some ((its, src, ok), S') → ∀ Rq : It → Hp → Prop,
    (∀ J H1 ι1 P, RSt W ι1 H1 S' → Ext ι S.length H ι1 S'.length H1 → (∀ a o, P a = some o → H1 a = some o ∧ ∀ h, h < S'.length → a ≠ ι1 h) →
      (ok = true → ∀ a o (i : Nat) s, P a = some o → ρ[i]? = some s → s.own = true → σ[i]? ≠ some (some (.ref a))) → Walks W J src its ι1 S'.length P → Rq J H1) → wi σ H Rq
/-- all tuples of a heap; and one thing more -/
def tups (H : Hp) : Hp := fun a => match H a with
  | some (.tup vs) => some (.tup vs)
  | _ => none
theorem tups_eq {a : Addr} {o : HO} (h : tups H a = some o) : ∃ vs, o = .tup vs ∧ H a = some (.tup vs) := by
  unfold tups at h
  split at h
  · rename_i vs q
    cases h
    exact ⟨vs, rfl, q⟩
  · cases h
theorem tups_of {a : Addr} {vs : List V} (h : H a = some (.tup vs)) : tups H a = some (.tup vs) := by
  unfold tups; rw [h]
def tupsAnd (H : Hp) (b : Addr) : Hp := fun a => if a = b then H a else tups H a
theorem tupsAnd_self {b : Addr} : tupsAnd H b b = H b := if_pos rfl
theorem tupsAnd_tup {a b : Addr} {vs : List V} (h : H a = some (.tup vs)) : tupsAnd H b a = some (.tup vs) := by
  unfold tupsAnd
  split
  · exact h
  · exact tups_of h
theorem tupsAnd_in {a b : Addr} {o : HO} (Z : RSt W ι H S) (hb : ∀ h, h < S.length → b ≠ ι h) (h : tupsAnd H b a = some o) : H a = some o ∧ ∀ h, h < S.length → a ≠ ι h := by
  unfold tupsAnd at h
  split at h
  · rename_i e
    subst e
    exact ⟨h, hb⟩
  · obtain ⟨vs, rfl, q⟩ := tups_eq h
    exact ⟨q, Z.tup_ne q⟩
theorem tups_in {a : Addr} {o : HO} (Z : RSt W ι H S) (h : tups H a = some o) : H a = some o ∧ ∀ h, h < S.length → a ≠ ι h := by
  obtain ⟨vs, rfl, q⟩ := tups_eq h
  exact ⟨q, Z.tup_ne q⟩
/-- a slot of its own holds no tuple -/
theorem own_tup {i : Nat} {s : Sl} {a : Addr} {vs : List V} (N : REnv W H0 ι n H ρ σ) (e : ρ[i]? = some s) (ho : s.own = true) (es : σ[i]? = some (some (.ref a))) : H a ≠ some (.tup vs) := by
  have ok := N.at_ i s _ e es
  cases s with
  | l xs => obtain ⟨b, ws, e1, e2, _⟩ := ok; cases e1; rw [e2]; intro q; cases q
  | d k kvs =>
    obtain ⟨b, e1, e2, _⟩ := ok
    cases e1
    intro q
    have m := mut_dic e2
    rw [q] at m
    exact m
  | _ => cases ho
theorem own_there {i : Nat} {s : Sl} {a : Addr} (N : REnv W H0 ι n H ρ σ) (e : ρ[i]? = some s) (ho : s.own = true) (es : σ[i]? = some (some (.ref a))) : ∃ o, H a = some o := by
  have ok := N.at_ i s _ e es
  cases s with
  | l xs => obtain ⟨b, ws, e1, e2, _⟩ := ok; cases e1; exact ⟨_, e2⟩
  | d k kvs => obtain ⟨b, e1, e2, _⟩ := ok; cases e1; exact e2.there
  | _ => cases ho
/-- the items of a list or a tuple -/
def R.src (xs : List D) : R → Src × Bool
  | .v (.ob h) => (.lst h xs, true)
  | .v _ => (.no, true)
  | .l _ => (.no, true)
  | _ => (.no, false)
def fSeq (fa : E) : Fi := fun ρ S => bnd (fa ρ S) fun x S1 => (x.seq S1).map fun xs => ((xs, x.src xs), S1)
/-- .. of what a slot holds -/
def fVar (i : Nat) : Fi := fun ρ S => match ρ[i]? with
  | some (.f xs) => some ((xs, .no, true), S)
  | some (.b xs) => some ((xs, .no, true), S)
  | _ => fSeq (eVar i) ρ S
def iSeq (K : PySem.W.Frag) (t : TE) : TI := fun σ H R => iList K t σ H R ∨ iTup K t σ H R
theorem PI.or {X : Cx} {tg e : Expr} {a b : TI} (h : PI X tg e a) (h' : PI X tg e b) : PI X tg e (fun σ H R => a σ H R ∨ b σ H R) :=
  ⟨fun pins s σ H R I q => q.elim (h.run pins s σ H R I) (h'.run pins s σ H R I)⟩
theorem pi_seq {X : Cx} {tg e : Expr} {t : TE} (h : PE X e t) : PI X tg e (iSeq X.K t) := PI.or (pi_list h) (pi_tup h)
theorem walks_list {K : PySem.W.Frag} {a : Addr} {src : Src} {xs : List D} {P : Hp} (hs : ∀ (ι' : Nat → Addr) (S' : Store) (H' : Hp), RSt W ι' H' S' → n ≤ S'.length → (∀ h, h < n → ι' h = ι h) → (∀ a o, P a = some o → H' a = some o) → src.alive S' = true →
      ∃ ws, SqL K H' a ws ∧ Reps ι' S'.length H' xs ws) : Walks W (Itl K a) src xs ι n P := by
  refine ⟨fun i d ι' S' H' Z' le sm kp al e => ?_, fun i ι' S' H' Z' le sm kp al hl => ?_⟩
  · obtain ⟨ws, h1, h2⟩ := hs ι' S' H' Z' le sm kp al
    obtain ⟨v, e1, r1⟩ := h2.get e
    refine ⟨⟨ws, v, h1, e1⟩, fun x H2 y => ?_⟩
    obtain ⟨rfl, y⟩ := y
    have e2 := y ws h1
    rw [e1] at e2
    cases e2
    exact ⟨Z', .refl, r1⟩
  · obtain ⟨ws, h1, h2⟩ := hs ι' S' H' Z' le sm kp al
    exact ⟨ws, h1, by rw [← h2.length]; exact hl⟩
theorem walks_tup {K : PySem.W.Frag} {a : Addr} {xs : List D} {vs : List V} (h : H a = some (.tup vs)) (hr : Reps ι n H xs vs) : Walks W (Itt K a) .no xs ι n (tups H) := by
  have all : ∀ (ι' : Nat → Addr) (S' : Store) (H' : Hp), n ≤ S'.length → (∀ h, h < n → ι' h = ι h) → (∀ a o, tups H a = some o → H' a = some o) → H' a = some (.tup vs) ∧ Reps ι' S'.length H' xs vs := fun ι' S' H' le sm kp =>
    ⟨kp a _ (tups_of h), Reps.mono le sm (fun b ws q => kp b _ (tups_of q)) _ _ hr⟩
  refine ⟨fun i d ι' S' H' Z' le sm kp al e => ?_, fun i ι' S' H' Z' le sm kp al hl => ?_⟩
  · obtain ⟨h1, h2⟩ := all ι' S' H' le sm kp
    obtain ⟨v, e1, r1⟩ := h2.get e
    refine ⟨⟨vs, v, .of h1, e1⟩, fun x H2 y => ?_⟩
    obtain ⟨rfl, y⟩ := y
    have e2 := y vs (.of h1)
    rw [e1] at e2
    cases e2
    exact ⟨Z', .refl, r1⟩
  · exact ⟨vs, .of (all ι' S' H' le sm kp).1, by rw [← hr.length]; exact hl⟩
/-- a list as it is walked: its address, what protects it -/
def ListSrc (W : Wd) (ι : Nat → Addr) (S : Store) (H : Hp) (x : R) (xs : List D) (v : V) : Prop := ∃ (a : Addr) (vs : List V) (P : Hp), v = .ref a ∧ Rd H a (.lst vs) ∧ Reps ι S.length H xs vs ∧
    (∀ b o, P b = some o → H b = some o ∧ ∀ h, h < S.length → b ≠ ι h) ∧ (∀ b o, P b = some o → (∃ ws, o = HO.tup ws) ∨ b = a) ∧ ((∃ m, x = .v (.ob m)) → ∀ b o, P b = some o → ∃ ws, o = HO.tup ws) ∧
    ∀ (ι' : Nat → Addr) (S' : Store) (H' : Hp), RSt W ι' H' S' → S.length ≤ S'.length → (∀ h, h < S.length → ι' h = ι h) → (∀ b o, P b = some o → H' b = some o) → (x.src xs).1.alive S' = true → ∃ ws, Rd H' a (.lst ws) ∧ Reps ι' S'.length H' xs ws
theorem src_plain {x : R} {v : V} {xs : List D} {a : Addr} {vs : List V} (Z : RSt W ι H S) (e1 : v = .ref a) (e2 : Rd H a (.lst vs)) (e3 : Reps ι S.length H xs vs) (e5 : ∀ h, h < S.length → a ≠ ι h) (nx : ¬ ∃ m, x = .v (.ob m)) : ListSrc W ι S H x xs v := by
  refine ⟨a, vs, tupsAnd H a, e1, e2, e3, fun b o q => tupsAnd_in Z e5 q, fun b o q => ?_, fun h => absurd h nx, fun ι' S' H' Z' le sm kp al => ⟨vs, ?_, Reps.mono le sm (fun b ws q => kp b _ (tupsAnd_tup q)) _ _ e3⟩⟩
  · by_cases hb : b = a
    · exact .inr hb
    · unfold tupsAnd at q
      rw [if_neg hb] at q
      obtain ⟨ws, q1, _⟩ := tups_eq q
      exact .inl ⟨ws, q1⟩
  · rcases e2 with h | ⟨o, h⟩
    · exact .inl (kp a _ (by rw [tupsAnd_self]; exact h))
    · exact .inr ⟨o, kp a _ (by rw [tupsAnd_self]; exact h)⟩
theorem list_src {x : R} {v : V} {xs : List D} (Z : RSt W ι H S) (r : RR W H0 ι S.length H x v) (e : x.lseq S = some xs) : ListSrc W ι S H x xs v := by
  cases x with
  | v d =>
    cases d with
    | ob m =>
      obtain ⟨a, vs, e1, e2, e3⟩ := lseq_rep (r := .v (.ob m)) Z r e
      refine ⟨a, vs, tups H, e1, e2, e3, fun b o q => tups_in Z q, fun b o q => ?_, fun _ b o q => ?_, fun ι' S' H' Z' le sm kp al => ?_⟩
      · obtain ⟨ws, q1, _⟩ := tups_eq q
        exact .inl ⟨ws, q1⟩
      · obtain ⟨ws, q1, _⟩ := tups_eq q
        exact ⟨ws, q1⟩
      · have al' : S'[m]? = some (.lst xs) := of_decide_eq_true al
        obtain ⟨ws, h1, h2⟩ := Z'.at_ m _ al'
        cases r with
        | ob hm =>
          cases e1
          rw [sm m hm] at h1
          exact ⟨ws, .inl h1, h2⟩
    | _ => cases e
  | l ys =>
    cases e
    obtain ⟨a, vs, e1, e2, e3, _, e5⟩ := r
    exact src_plain Z e1 (.inl e2) e3 e5 fun ⟨m, q⟩ => by cases q
  | b ys =>
    cases e
    obtain ⟨a, vs, e1, e2, e3, e5⟩ := r
    exact src_plain Z e1 (.inl e2) e3 e5 fun ⟨m, q⟩ => by cases q
  | _ => cases e
theorem seq_lseq {x : R} {xs : List D} (e : x.seq S = some xs) : x.lseq S = some xs ∨ x = .v (.tup xs) := by
  cases x with
  | v d =>
    cases d with
    | tup ys => cases e; exact .inr rfl
    | ob m => exact .inl e
    | _ => cases e
  | l ys => exact .inl e
  | b ys => exact .inl e
  | _ => cases e
/-- a list that was just made, or is the store's: no slot of its own holds it -/
theorem src_own {x : R} {v : V} {xs : List D} {a : Addr} {P : Hp} (N : REnv W H0 ι S.length H ρ σ) (Z : RSt W ι H S) (X : Ext ι S.length H ι1 S1.length H1) (Z1 : RSt W ι1 H1 S1) (r : RR W H ι1 S1.length H1 x v) (e : x.lseq S1 = some xs) (ev : v = .ref a)
    (hp : ∀ b o, P b = some o → H1 b = some o ∧ ∀ h, h < S1.length → b ≠ ι1 h) (h2 : ∀ b o, P b = some o → (∃ ws, o = .tup ws) ∨ b = a) (h3 : (∃ m, x = .v (.ob m)) → ∀ b o, P b = some o → ∃ ws, o = .tup ws) (ok : (x.src xs).2 = true) :
    ∀ b o (i : Nat) s, P b = some o → ρ[i]? = some s → s.own = true → σ[i]? ≠ some (some (.ref b)) := by
  intro b o i s hb ei ho es
  have N1 := N.ext X Z
  have nt : (∃ ws, o = .tup ws) → False := fun ⟨ws, q⟩ => by
    subst q
    exact own_tup N1 ei ho es (hp b _ hb).1
  rcases h2 b o hb with q | q
  · exact nt q
  · subst q
    cases x with
    | v d =>
      cases d with
      | ob m => exact nt (h3 ⟨m, rfl⟩ b o hb)
      | _ => cases e
    | l ys =>
      obtain ⟨c, vs, e1, _, _, e4, _⟩ := r
      rw [ev] at e1
      cases e1
      obtain ⟨u, q⟩ := own_there N ei ho es
      rw [e4] at q
      cases q
    | _ => cases ok
theorem simI_seq {t : TE} {fa : E} (ha : SimE W t fa) : SimI W (iSeq W.K t) (fSeq fa) := by
  intro σ H ι ρ S H0 its src ok S' Z N e Rq hR
  obtain ⟨x, S1, e1, e⟩ := bnd_eq e
  cases q : x.seq S1 with
  | none => rw [q] at e; cases e
  | some xs =>
    rw [q] at e
    simp only [Option.map_some, Option.some.injEq, Prod.mk.injEq] at e
    obtain ⟨⟨rfl, e2⟩, rfl⟩ := e
    rcases seq_lseq q with q | q
    · refine .inl (ha.then Z N e1 fun v1 H1 ι1 Z1 X1 N1 R1 => ?_)
      obtain ⟨a, vs, P, ev, h1, h2, hp, ho, h3, h4⟩ := list_src Z1 R1 q
      refine ⟨a, ev, ⟨vs, .inl h1⟩, hR _ H1 ι1 P Z1 X1 hp (fun hok => src_own N Z X1 Z1 R1 q ev hp ho h3 (by rw [e2]; exact hok)) (walks_list fun ι' S2 H2 Z2 le sm kp al => ?_)⟩
      obtain ⟨ws, w1, w2⟩ := h4 ι' S2 H2 Z2 le sm kp (by rw [e2]; exact al)
      exact ⟨ws, .inl w1, w2⟩
    · subst q
      cases e2
      refine .inr (ha.then Z N e1 fun v1 H1 ι1 Z1 X1 N1 R1 => ?_)
      have R1' : Rep ι1 S1.length H1 (.tup xs) v1 := R1
      cases R1' with
      | tup h1 h2 =>
        refine ⟨_, rfl, ⟨_, .of h1⟩, hR _ H1 ι1 _ Z1 X1 (fun b o q => tups_in Z1 q) (fun _ b o i s hb ei ho es => ?_) (walks_tup h1 h2)⟩
        obtain ⟨ws, rfl, q⟩ := tups_eq hb
        exact own_tup N1 ei ho es q
theorem simI_var {i : Nat} : SimI W (iSeq W.K (tVar i)) (fVar i) := by
  intro σ H ι ρ S H0 its src ok S' Z N e Rq hR
  cases qr : ρ[i]? with
  | none =>
    unfold fVar at e
    rw [qr] at e
    unfold fSeq eVar at e
    rw [qr] at e
    cases e
  | some s =>
    have hi : i < σ.length := by
      have := (List.getElem?_eq_some_iff.mp qr).1
      rw [N.len] at this
      exact this
    have qs : σ[i]? = some σ[i] := by simp [hi]
    have same : (∀ xs, s ≠ .b xs) → (∀ xs, s ≠ .f xs) → fVar i ρ S = fSeq (eVar i) ρ S := fun h1 h2 => by
      unfold fVar
      rw [qr]
      cases s with
      | b xs => exact absurd rfl (h1 xs)
      | f xs => exact absurd rfl (h2 xs)
      | _ => rfl
    -- a slot that lends
    have lent : ∀ (x : R) (xs : List D) (a : Addr) (vs : List V), s.lends = true → s.own = false → σ[i]? = some (some (.ref a)) → RR W H ι S.length H x (.ref a) → x.lseq S = some xs → (x.src xs).1 = .no → its = xs → src = .no → S' = S → iSeq W.K (tVar i) σ H Rq := by
      intro x xs a vs hl hno es R1 q hsrc rfl rfl rfl
      obtain ⟨a', vs', P, ev, h1, h2, hp, ho, h3, h4⟩ := list_src Z R1 q
      cases ev
      refine .inl ⟨.ref a, es, a, rfl, ⟨vs', .inl h1⟩, hR _ H ι P Z .refl hp (fun _ b o j t hb ej hw ej2 => ?_) (walks_list fun ι' S2 H2 Z2 le sm kp al => ?_)⟩
      · rcases ho b o hb with ⟨ws, rfl⟩ | rfl
        · exact own_tup N ej hw ej2 (hp b _ hb).1
        · by_cases hij : j = i
          · subst hij
            rw [ej] at qr
            cases qr
            rw [hw] at hno
            cases hno
          · exact N.sep j i t s b hij ej qr hw hl ej2 es
      · obtain ⟨ws, w1, w2⟩ := h4 ι' S2 H2 Z2 le sm kp (by rw [hsrc]; exact al)
        exact ⟨ws, .inl w1, w2⟩
    cases s with
    | b xs =>
      obtain ⟨a, vs, k1, k2⟩ := N.at_ i _ _ qr qs
      unfold fVar at e
      rw [qr] at e
      simp only [Option.some.injEq, Prod.mk.injEq] at e
      obtain ⟨⟨e1, e2, e3⟩, e4⟩ := e
      exact lent (.b xs) xs a vs rfl rfl (by rw [qs, k1]) ⟨a, vs, rfl, k2⟩ rfl rfl e1.symm e2.symm e4.symm
    | f xs =>
      obtain ⟨a, vs, k1, k2, k3⟩ := N.at_ i _ _ qr qs
      unfold fVar at e
      rw [qr] at e
      simp only [Option.some.injEq, Prod.mk.injEq] at e
      obtain ⟨⟨rfl, rfl, rfl⟩, rfl⟩ := e
      rcases k2 with ⟨o, k2, k4⟩ | k2
      · have hp : ∀ b u, tupsAnd H a b = some u → H b = some u ∧ ∀ h, h < S.length → b ≠ ι h := fun b u q => tupsAnd_in Z k4 q
        refine .inl ⟨.ref a, by rw [qs, k1], a, rfl, ⟨vs, .inl (.inr ⟨o, k2⟩)⟩, hR _ H ι (tupsAnd H a) Z .refl hp (fun _ b u j t hb ej hw ej2 => ?_) (walks_list fun ι' S2 H2 Z2 le sm kp al => ⟨vs, .inl (.inr ⟨o, kp a _ (by rw [tupsAnd_self]; exact k2)⟩), Reps.mono le sm (fun b ws q => kp b _ (tupsAnd_tup q)) _ _ k3⟩)⟩
        by_cases hba : b = a
        · subst hba
          have q2 := (hp b _ hb).1
          have ok := N.at_ j t _ ej ej2
          cases t with
          | l ys => obtain ⟨c, ws, c1, c2, _⟩ := ok; cases c1; rw [k2] at c2; cases c2
          | d k kvs =>
            obtain ⟨c, c1, c2, _⟩ := ok
            cases c1
            have m := mut_dic c2
            rw [k2] at m
            exact m
          | _ => cases hw
        · unfold tupsAnd at hb
          rw [if_neg hba] at hb
          obtain ⟨ws, rfl, q⟩ := tups_eq hb
          exact own_tup N ej hw ej2 q
      · refine .inl ⟨.ref a, by rw [qs, k1], a, rfl, ⟨vs, .inr k2⟩, hR _ H ι (tups H) Z .refl (fun b u q => tups_in Z q) (fun _ b u j t hb ej hw ej2 => ?_) (walks_list fun ι' S2 H2 Z2 le sm kp al => ⟨vs, .inr k2, Reps.mono le sm (fun b ws q => kp b _ (tups_of q)) _ _ k3⟩)⟩
        obtain ⟨ws, rfl, q⟩ := tups_eq hb
        exact own_tup N ej hw ej2 q
    | no => rw [same (fun _ q => by cases q) fun _ q => by cases q] at e; exact simI_seq sim_var σ H ι ρ S H0 its src ok S' Z N e Rq hR
    | v d => rw [same (fun _ q => by cases q) fun _ q => by cases q] at e; exact simI_seq sim_var σ H ι ρ S H0 its src ok S' Z N e Rq hR
    | l xs => rw [same (fun _ q => by cases q) fun _ q => by cases q] at e; exact simI_seq sim_var σ H ι ρ S H0 its src ok S' Z N e Rq hR
    | d k kvs => rw [same (fun _ q => by cases q) fun _ q => by cases q] at e; exact simI_seq sim_var σ H ι ρ S H0 its src ok S' Z N e Rq hR
/-- range(n) -/
def fRange (fa : E) : Fi := fun ρ S => bnd (fa ρ S) fun x S1 => x.int.bind fun n => if smallN n then some ((rangeD n, .no, true), S1) else none
theorem rangeD_get {m : Int} {i : Nat} {d : D} (h : (rangeD m)[i]? = some d) : i < m.toNat ∧ d = .int (i : Nat) := by
  unfold rangeD at h
  rw [List.getElem?_map] at h
  cases q : (List.range m.toNat)[i]? with
  | none => rw [q] at h; cases h
  | some k =>
    rw [q] at h
    cases h
    have hi := (List.getElem?_eq_some_iff.mp q).1
    rw [List.length_range] at hi
    rw [List.getElem?_range hi] at q
    cases q
    exact ⟨hi, rfl⟩
theorem simI_range {t : TE} {fa : E} (ha : SimE W t fa) : SimI W (iRng1 (tCons t tNil)) (fRange fa) := by
  intro σ H ι ρ S H0 its src ok S' Z N e Rq hR
  obtain ⟨x, S1, e1, e⟩ := bnd_eq e
  cases q : x.int with
  | none => rw [q] at e; cases e
  | some m =>
    rw [q] at e
    simp only [Option.bind_some] at e
    split at e
    · rename_i c
      cases e
      have := int_eq q
      subst this
      simp only [smallN, Bool.and_eq_true, decide_eq_true_eq] at c
      refine ha.then Z N e1 fun v1 H1 ι1 Z1 X1 N1 R1 => ?_
      cases R1
      refine ⟨m, rfl, by omega, by omega, hR _ H1 ι1 (fun _ => none) Z1 X1 (fun _ _ q => by cases q) (fun _ _ _ _ _ q => by cases q) ⟨fun i d ι' S2 H2 Z2 _ _ _ al e => ?_, fun i ι' S2 H2 Z2 _ _ _ al hl => ?_⟩⟩
      · obtain ⟨hi, rfl⟩ := rangeD_get e
        refine ⟨hi, fun x H3 y => ?_⟩
        obtain ⟨rfl, rfl⟩ := y
        refine ⟨Z2, .refl, ?_⟩
        rw [Int.zero_add]
        exact .int _
      · unfold rangeD at hl
        rw [List.length_map, List.length_range] at hl
        exact hl
    · cases e
/-- enumerate(l) -/
def enumD : Nat → List D → List D
  | _, [] => []
  | i, d :: ds => .tup [.int (i : Nat), d] :: enumD (i + 1) ds
theorem enumD_len : ∀ (i : Nat) (ds : List D), (enumD i ds).length = ds.length
  | _, [] => rfl
  | i, _ :: ds => by simp [enumD, enumD_len (i + 1) ds]
theorem enumD_get : ∀ {i j : Nat} {ds : List D} {d : D}, (enumD i ds)[j]? = some d → ∃ x, ds[j]? = some x ∧ d = .tup [.int ((i + j : Nat)), x]
  | i, j, [], d, h => by simp [enumD] at h
  | i, 0, x :: ds, d, h => by simp [enumD] at h; exact ⟨x, by simp, by rw [← h]; simp⟩
  | i, j + 1, x :: ds, d, h => by
    simp only [enumD, List.getElem?_cons_succ] at h
    obtain ⟨y, e1, e2⟩ := enumD_get h
    exact ⟨y, by simpa using e1, by rw [e2, show i + 1 + j = i + (j + 1) by omega]⟩
/-- enumerate over what the slot i holds -/
def fEnumV (i : Nat) : Fi := fun ρ S => bnd (eVar i ρ S) fun x S1 => (x.lseq S1).map fun xs => ((enumD 0 xs, (x.src xs).1, match ρ[i]? with
  | some (.b _) => true
  | _ => (x.src xs).2), S1)
theorem walks_enum {K : PySem.W.Frag} {a : Addr} {src : Src} {xs : List D} {P : Hp} (hs : ∀ (ι' : Nat → Addr) (S' : Store) (H' : Hp), RSt W ι' H' S' → n ≤ S'.length → (∀ h, h < n → ι' h = ι h) → (∀ a o, P a = some o → H' a = some o) → src.alive S' = true →
      ∃ ws, SqL K H' a ws ∧ Reps ι' S'.length H' xs ws) : Walks W (Ite K a) src (enumD 0 xs) ι n P := by
  refine ⟨fun i d ι' S2 H2 Z2 le sm kp al e => ?_, fun i ι' S2 H2 Z2 le sm kp al hl => ?_⟩
  · obtain ⟨ws, w1, w2⟩ := hs ι' S2 H2 Z2 le sm kp al
    obtain ⟨y, e3, rfl⟩ := enumD_get e
    obtain ⟨v, e4, r4⟩ := w2.get e3
    refine ⟨⟨ws, v, w1, e4⟩, fun z H3 yl => ?_⟩
    obtain ⟨T, u, rfl, hT, rfl, yl⟩ := yl
    have e5 := yl ws w1
    rw [e4] at e5
    cases e5
    have X3 : Ext ι' S2.length H2 ι' S2.length (upd H2 T (.tup [.int (i : Nat), v])) := Ext.upd hT
    refine ⟨Z2.upd hT, X3, .tup upd_same (.cons ?_ (.cons (r4.ext X3 Z2) .nil))⟩
    rw [Nat.zero_add]
    exact .int _
  · obtain ⟨ws, w1, w2⟩ := hs ι' S2 H2 Z2 le sm kp al
    rw [enumD_len] at hl
    exact ⟨ws, w1, by rw [← w2.length]; exact hl⟩
theorem simI_enumV {i : Nat} : SimI W (iEnum W.K (tCons (tVar i) tNil)) (fEnumV i) := by
  intro σ H ι ρ S H0 its src ok S' Z N e Rq hR
  unfold fEnumV at e
  obtain ⟨x, S1, e1, e⟩ := bnd_eq e
  cases q : x.lseq S1 with
  | none => rw [q] at e; cases e
  | some xs =>
    rw [q] at e
    simp only [Option.map_some, Option.some.injEq, Prod.mk.injEq] at e
    obtain ⟨⟨rfl, rfl, e3⟩, rfl⟩ := e
    have sq : x.seq S1 = some xs := by
      cases x with
      | v d => cases d <;> first | exact q | cases q
      | _ => exact q
    unfold eVar at e1
    cases qr : ρ[i]? with
    | none => rw [qr] at e1; cases e1
    | some s =>
      rw [qr] at e1 e3
      have hi : i < σ.length := by
        have := (List.getElem?_eq_some_iff.mp qr).1
        rw [N.len] at this
        exact this
      have qs : σ[i]? = some σ[i] := by simp [hi]
      have go : ∀ (a : Addr), σ[i]? = some (some (.ref a)) → RR W H ι S.length H x (.ref a) → S1 = S → (ok = true → s.own = false) → (s.lends = true ∨ (∃ m, x = .v (.ob m))) → iEnum W.K (tCons (tVar i) tNil) σ H Rq := by
        intro a es R1 eS hno hk
        subst eS
        obtain ⟨a', vs', P, ev, h1, h2, hp, ho, h3, h4⟩ := list_src Z R1 q
        cases ev
        refine ⟨.ref a, es, a, vs', rfl, .inl h1, hR _ H ι P Z .refl hp (fun hok b o j t hb ej hw ej2 => ?_) (walks_enum fun ι' S2 H2 Z2 le sm kp al => ?_)⟩
        · rcases hk with hl | hm
          · rcases ho b o hb with ⟨ws, rfl⟩ | rfl
            · exact own_tup N ej hw ej2 (hp b _ hb).1
            · by_cases hij : j = i
              · subst hij
                rw [ej] at qr
                cases qr
                have := hno hok
                rw [hw] at this
                cases this
              · exact N.sep j i t s b hij ej qr hw hl ej2 es
          · obtain ⟨ws, rfl⟩ := h3 hm b o hb
            exact own_tup N ej hw ej2 (hp b _ hb).1
        · obtain ⟨ws, w1, w2⟩ := h4 ι' S2 H2 Z2 le sm kp al
          exact ⟨ws, .inl w1, w2⟩
      have ok0 := N.at_ i s _ qr qs
      cases s with
      | no => cases e1
      | v d =>
        cases e1
        obtain ⟨v, ev, rv⟩ := ok0
        cases d with
        | ob m =>
          cases rv with
          | ob hm => exact go _ (by rw [qs, ev]) (.ob hm) rfl (fun _ => rfl) (.inr ⟨m, rfl⟩)
        | _ => cases q
      | l ys =>
        cases e1
        obtain ⟨a, vs, k1, k2, k3, k4, k5⟩ := ok0
        exact go a (by rw [qs, k1]) ⟨a, vs, rfl, k2, k3, k5⟩ rfl (fun hok => by rw [← e3] at hok; cases hok) (.inl rfl)
      | b ys =>
        cases e1
        obtain ⟨a, vs, k1, k2⟩ := ok0
        exact go a (by rw [qs, k1]) ⟨a, vs, rfl, k2⟩ rfl (fun _ => rfl) (.inl rfl)
      | f ys => cases e1; cases q
      | d k kvs => cases e1; cases q

/-! ### [e for t in i if c] -/
def compF (tg : Tg) (ft fe : E) (src : Src) (ρ : Env) : List D → Store → Option (List D × Store)
  | [], S => if src.alive S then some ([], S) else none
  | d :: r, S => if src.alive S then (match tg d ρ with
    | some ρ1 => bnd (ft ρ1 S) fun b S1 => (match b.bool with
      | some true => bnd (fe ρ1 S1) fun x S2 => (match x.flat with
        | some y => bnd (compF tg ft fe src ρ r S2) fun ys S3 => some (y :: ys, S3)
        | none => none)
      | some false => compF tg ft fe src ρ r S1
      | none => none)
    | none => none) else none
def eComp (fi : Fi) (tg : Tg) (vs : List Nat) (ft fe : E) : E := fun ρ S => bnd (fi ρ S) fun p S1 => if p.1.length ≤ cap then bnd (compF tg ft fe p.2.1 (wipeE ρ vs) p.1 S1) fun ys S2 => some (.l ys, S2) else none
def eTrue : E := fun _ S => some (.v (.bl true), S)
theorem simT_yes : SimT W tYes eTrue := by
  intro σ H ι ρ S H0 b S' Z N e Q hQ
  cases e
  exact hQ H ι Z .refl
theorem compF_alive {tg : Tg} {ft fe : E} {src : Src} {its : List D} {r : List D × Store} (h : compF tg ft fe src ρ its S = some r) : src.alive S = true := by
  cases its with
  | nil =>
    unfold compF at h
    split at h
    · assumption
    · cases h
  | cons d ds =>
    unfold compF at h
    split at h
    · assumption
    · cases h
theorem sim_comp {wi : TI} {fi : Fi} {g : TG} {tg : Tg} {js vs : List Nat} {tt : TT} {ft : E} {te : TE} {fe : E} (hi : SimI W wi fi) (hg : SimG W g tg js) (hj : ∀ j ∈ js, j ∈ vs) (ht : SimT W tt ft) (he : SimE W te fe) :
    SimE W (tLc wi g tt te vs) (eComp fi tg vs ft fe) := by
  intro σ H ι ρ S H0 z S' Z N e Q hQ
  obtain ⟨⟨its, src, okf⟩, S1, e1, e⟩ := bnd_eq e
  simp only at e
  by_cases hcap : its.length ≤ cap
  · rw [if_pos hcap] at e
    obtain ⟨ys, S2, e2, e⟩ := bnd_eq e
    cases e
    refine hi σ H ι ρ S H0 its src okf S1 Z N e1 _ fun J H1 ι1 P Z1 X1 hP _ wk => ?_
    intro L hL
    have hL0 : H L = none := X1.dom Z1 hL
    have N1 := N.ext X1 Z
    refine ⟨fun i m Hh => m = its.length - i ∧ i ≤ its.length ∧ ∃ (ι' : Nat → Addr) (Sh : Store) (acc : List V) (accD ds : List D), RSt W ι' Hh Sh ∧ Ext ι1 S1.length H1 ι' Sh.length Hh ∧ Hh L = some (.lst acc) ∧ Reps ι' Sh.length Hh accD acc ∧
        (∀ h, h < Sh.length → L ≠ ι' h) ∧ acc.length ≤ i ∧ compF tg ft fe src (wipeE ρ vs) (its.drop i) Sh = some (ds, S') ∧ accD ++ ds = ys, ⟨its.length, by simp, Nat.zero_le _, ι1, S1, [], [], ys, Z1.upd hL, Ext.upd hL, upd_same, .nil, Z1.ne_new hL, Nat.zero_le _, by simpa using e2, rfl⟩, ?_⟩
    rintro i m Hh ⟨rfl, hil, ι', Sh, acc, accD, ds, Zh, Xh, hLh, rh, nh, hal, ec, ed⟩
    have al := compF_alive ec
    have kpP : ∀ a o, P a = some o → Hh a = some o := fun a o q => Xh.keep a o (hP a o q).1 (hP a o q).2
    have NW : REnv W H0 ι' Sh.length Hh (wipeE ρ vs) (wipe σ vs) := (N1.ext Xh Z1).wipe vs
    by_cases hlt : i < its.length
    · refine .inr ?_
      obtain ⟨d, hd⟩ : ∃ d, its[i]? = some d := ⟨its[i], by simp [hlt]⟩
      obtain ⟨go, yl⟩ := wk.go i d ι' Sh Hh Zh Xh.le Xh.same kpP al hd
      have hdrop : its.drop i = d :: its.drop (i + 1) := by
        rw [List.drop_eq_getElem_cons hlt]
        have : its[i] = d := by
          have q := (List.getElem?_eq_some_iff.mp hd).2
          exact q
        rw [this]
      rw [hdrop] at ec
      unfold compF at ec
      rw [if_pos al] at ec
      split at ec
      · rename_i ρ1 eg
        obtain ⟨b, S3, e3, ec⟩ := bnd_eq ec
        refine ⟨go, fun H2 => (∃ (ι' : Nat → Addr) (Sh : Store) (acc : List V) (accD ds : List D), RSt W ι' H2 Sh ∧ Ext ι1 S1.length H1 ι' Sh.length H2 ∧ H2 L = some (.lst acc) ∧ Reps ι' Sh.length H2 accD acc ∧
          (∀ h, h < Sh.length → L ≠ ι' h) ∧ acc.length ≤ i + 1 ∧ compF tg ft fe src (wipeE ρ vs) (its.drop (i + 1)) Sh = some (ds, S') ∧ accD ++ ds = ys), fun H2 q => ⟨its.length - (i + 1), by omega, rfl, hlt, q⟩, fun x H2 y => ?_⟩
        obtain ⟨Zx, Xx, rx⟩ := yl x H2 y
        refine hg (wipe σ vs) H2 ι' (wipeE ρ vs) Sh H0 d x ρ1 Zx (NW.ext Xx Zh) rx eg _ fun σ2 N2 w2 => ⟨?_, ?_⟩
        · have w3 : wipe σ2 vs = wipe (wipe σ vs) vs := w2 vs hj
          rw [w3]
          have idem : ∀ us ws : List Nat, (∀ u ∈ us, u ∈ ws) → wipe (wipe σ us) ws = wipe σ ws := by
            intro us
            induction us with
            | nil => intro ws _; rfl
            | cons u us ih =>
              intro ws hw
              show wipe ((wipe σ us).set u none) ws = wipe σ ws
              rw [wipe_set (hw u List.mem_cons_self), ih ws fun u hu => hw u (List.mem_cons_of_mem _ hu)]
          exact idem vs vs fun _ h => h
        cases qb : b.bool with
        | none => rw [qb] at ec; cases ec
        | some k =>
          rw [qb] at ec
          have eb := bool_eq qb
          subst eb
          have XL : H2 L = some (.lst acc) := Xx.keep L _ hLh nh
          refine ht.then Zx N2 e3 fun H3 ι3 Z3 X3 N3 => ?_
          have nL2 : ∀ h, h < Sh.length → L ≠ ι' h := nh
          have XL3 : H3 L = some (.lst acc) := X3.keep L _ XL nL2
          have nL3 := X3.apart XL nL2
          have rh3 := (rh.ext Xx Zh).ext X3 Zx
          have Xb := (Xh.trans Xx Zh).trans X3 Zx
          cases k with
          | false =>
            simp only [Bool.false_eq_true, if_false]
            exact ⟨ι3, S3, acc, accD, ds, Z3, Xb, XL3, rh3, nL3, by omega, ec, ed⟩
          | true =>
            simp only [if_true]
            obtain ⟨x4, S4, e4, ec⟩ := bnd_eq ec
            cases qf : x4.flat with
            | none => rw [qf] at ec; cases ec
            | some y4 =>
              rw [qf] at ec
              obtain ⟨ys5, S5, e5, ec⟩ := bnd_eq ec
              cases ec
              refine he.then Z3 N3 e4 fun v4 H4 ι4 Z4 X4 N4 R4 => ?_
              have XL4 : H4 L = some (.lst acc) := X4.keep L _ XL3 nL3
              have nL4 := X4.apart XL3 nL3
              have r4 := flat_rep R4 qf
              have nt : ∀ us, (HO.lst acc) ≠ .tup us := fun us q => by cases q
              refine ⟨acc, XL4, by rw [← cap_eq]; omega, ι4, S4, acc ++ [v4], accD ++ [y4], ys5, Z4.updAt nL4 XL4 nt, (Xb.trans X4 Z3).updNew hL, upd_same, ?_, nL4, by rw [List.length_append]; simp; omega, e5, by rw [List.append_assoc]; exact ed⟩
              exact ((rh3.ext X4 Z3).updAt XL4 nt).append (.cons (r4.updAt XL4 nt) .nil)
      · cases ec
    · refine .inl ?_
      have ei : i = its.length := by omega
      subst ei
      rw [List.drop_length] at ec
      unfold compF at ec
      rw [if_pos al] at ec
      cases ec
      rw [List.append_nil] at ed
      subst ed
      refine ⟨wk.stop _ ι' _ Hh Zh Xh.le Xh.same kpP al (Nat.le_refl _), hQ _ Hh ι' Zh (X1.trans Xh Z1) ⟨L, acc, rfl, hLh, rh, hL0, nh⟩⟩
  · rw [if_neg hcap] at e; cases e
end
end Ev

set_option Elab.async false
set_option linter.all false
set_option maxRecDepth 100000
set_option maxHeartbeats 4000000
/-! Statements. -/
namespace Ev
open PySem L2

inductive Out where
  | next (ρ : Env) (S : Store)
  | ret (r : R) (S : Store)
  | brk (ρ : Env) (S : Store)
  | cont (ρ : Env) (S : Store)
abbrev Sx := Env → Store → Option Out

/-- what a piece of code is seen against: the def's entry; a walk around it (what must stay for it) -/
structure Bas where
  ι0 : Nat → Addr
  S0 : Store
  H0 : Hp
  ιw : Nat → Addr
  nw : Nat
  P : Hp
structure At (W : Wd) (B : Bas) (ι : Nat → Addr) (ρ : Env) (S : Store) (σ : St) (H : Hp) : Prop where
  Z : RSt W ι H S
  X : Ext B.ι0 B.S0.length B.H0 ι S.length H
  N : REnv W B.H0 ι S.length H ρ σ
  le : B.nw ≤ S.length
  sm : ∀ h, h < B.nw → ι h = B.ιw h
  kp : ∀ a o, B.P a = some o → H a = some o ∧ ∀ h, h < S.length → a ≠ ι h
  no : ∀ a o (i : Nat) s, B.P a = some o → ρ[i]? = some s → s.own = true → σ[i]? ≠ some (some (.ref a))
def Post (W : Wd) (B : Bas) (D : Ends) : Out → Prop
  | .next ρ' S' => ∀ σ' H' ι', At W B ι' ρ' S' σ' H' → D.nx σ' H'
  | .brk ρ' S' => ∀ σ' H' ι', At W B ι' ρ' S' σ' H' → D.bk σ' H'
  | .cont ρ' S' => ∀ σ' H' ι', At W B ι' ρ' S' σ' H' → D.ct σ' H'
  | .ret r S' => ∀ v H' ι', RSt W ι' H' S' → Ext B.ι0 B.S0.length B.H0 ι' S'.length H' → RR W B.H0 ι' S'.length H' r v → D.rt v H'
def SimS (W : Wd) (t : TS) (f : Sx) : Prop := ∀ (B : Bas) (σ : St) (H : Hp) (ι : Nat → Addr) (ρ : Env) (S : Store) (out : Out),
  At W B ι ρ S σ H → f ρ S = some out → ∀ D : Ends, Post W B D out → t D σ H

section
variable {W : Wd} {B : Bas} {ι ι' ι1 ι0 : Nat → Addr} {n n' : Nat} {H H' H0 H1 : Hp} {S S' S1 S0 : Store} {ρ : Env} {σ : St}
theorem At.ext (A : At W B ι ρ S σ H) (X1 : Ext ι S.length H ι1 S1.length H1) (Z1 : RSt W ι1 H1 S1) : At W B ι1 ρ S1 σ H1 where
  Z := Z1
  X := A.X.trans X1 A.Z
  N := A.N.ext X1 A.Z
  le := Nat.le_trans A.le X1.le
  sm := fun h hh => (X1.same h (Nat.lt_of_lt_of_le hh A.le)).trans (A.sm h hh)
  kp := fun a o q => ⟨X1.keep a o (A.kp a o q).1 (A.kp a o q).2, X1.apart (A.kp a o q).1 (A.kp a o q).2⟩
  no := A.no
/-- other slots -/
theorem At.slots {ρ' : Env} {σ' : St} (A : At W B ι ρ S σ H) (N' : REnv W B.H0 ι S.length H ρ' σ') (no' : ∀ a o (i : Nat) s, B.P a = some o → ρ'[i]? = some s → s.own = true → σ'[i]? ≠ some (some (.ref a))) : At W B ι ρ' S σ' H :=
  ⟨A.Z, A.X, N', A.le, A.sm, A.kp, no'⟩
theorem At.setV (A : At W B ι ρ S σ H) (i : Nat) {d : D} {v : V} (r : Rep ι S.length H d v) : At W B ι (ρ.set i (.v d)) S (σ.set i (some v)) H :=
  A.slots (A.N.setV i r) fun a o j s q e ho es => by
    rcases get_set e with ⟨_, rfl⟩ | ⟨hj, e⟩
    · cases ho
    · rcases get_set es with ⟨z, _⟩ | ⟨_, es⟩
      · exact hj z
      · exact A.no a o j s q e ho es
def sNil : Sx := fun ρ S => some (.next ρ S)
def sFail : Sx := fun _ _ => none
def sSeq (f g : Sx) : Sx := fun ρ S => match f ρ S with
  | some (.next ρ1 S1) => g ρ1 S1
  | o => o
theorem simS_nil : SimS W tNext sNil := by
  intro B σ H ι ρ S out A e D hD
  cases e
  exact hD σ H ι A
theorem simS_fail {t : TS} : SimS W t sFail := by
  intro B σ H ι ρ S out A e D hD
  cases e
theorem simS_seq {t u : TS} {f g : Sx} (hf : SimS W t f) (hg : SimS W u g) : SimS W (tSeq t u) (sSeq f g) := by
  intro B σ H ι ρ S out A e D hD
  unfold sSeq at e
  cases q : f ρ S with
  | none => rw [q] at e; cases e
  | some o =>
    refine hf B σ H ι ρ S o A q _ ?_
    rw [q] at e
    cases o with
    | next ρ1 S1 =>
      intro σ' H' ι' A'
      exact hg B σ' H' ι' ρ1 S1 out A' e D hD
    | ret r S1 => cases e; exact hD
    | brk ρ1 S1 => cases e; exact hD
    | cont ρ1 S1 => cases e; exact hD
def sExpr (fe : E) : Sx := fun ρ S => bnd (fe ρ S) fun _ S1 => some (.next ρ S1)
theorem simS_expr {t : TE} {fe : E} (h : SimE W t fe) : SimS W (tDrop t) (sExpr fe) := by
  intro B σ H ι ρ S out A e D hD
  obtain ⟨x, S1, e1, e⟩ := bnd_eq e
  cases e
  exact h.then A.Z A.N e1 fun v1 H1 ι1 Z1 X1 N1 R1 => hD σ H1 ι1 (A.ext X1 Z1)
/-- what may leave a def -/
def R.may : R → Bool
  | .v _ => true
  | .l _ => true
  | .d _ _ => true
  | .pr x y => x.may && y.may
  | _ => false
def sRet (fe : E) : Sx := fun ρ S => bnd (fe ρ S) fun x S1 => if x.may then some (.ret x S1) else none
theorem simS_ret {t : TE} {fe : E} (h : SimE W t fe) : SimS W (tRet t) (sRet fe) := by
  intro B σ H ι ρ S out A e D hD
  obtain ⟨x, S1, e1, e⟩ := bnd_eq e
  split at e
  · cases e
    exact h.then A.Z A.N e1 fun v1 H1 ι1 Z1 X1 N1 R1 => hD v1 H1 ι1 Z1 (A.X.trans X1 A.Z) (R1.older (fun a q => A.X.dom A.Z q) _ _)
  · cases e
def sRetN : Sx := fun _ S => some (.ret (.v .non) S)
theorem simS_retN : SimS W tRetN sRetN := by
  intro B σ H ι ρ S out A e D hD
  cases e
  exact hD .non H ι A.Z A.X .non
/-- a slot leaves the def -/
def Sl.out : Sl → Option R
  | .v x => some (.v x)
  | .l xs => some (.l xs)
  | .d k kvs => some (.d k kvs)
  | _ => none
theorem slot_out {i : Nat} {s : Sl} {r : R} (N : REnv W H0 ι n H ρ σ) (e : ρ[i]? = some s) (eo : s.out = some r) : ∃ v, σ[i]? = some (some v) ∧ RR W H0 ι n H r v := by
  have hi : i < σ.length := by
    have := (List.getElem?_eq_some_iff.mp e).1
    rw [N.len] at this
    exact this
  have qs : σ[i]? = some σ[i] := by simp [hi]
  have ok := N.at_ i s _ e qs
  cases s with
  | v d => cases eo; obtain ⟨v, ev, rv⟩ := ok; exact ⟨v, by rw [qs, ev], rv⟩
  | l xs => cases eo; obtain ⟨a, vs, ev, h⟩ := ok; exact ⟨.ref a, by rw [qs, ev], a, vs, rfl, h⟩
  | d k kvs => cases eo; obtain ⟨a, ev, h⟩ := ok; exact ⟨.ref a, by rw [qs, ev], a, rfl, h⟩
  | _ => cases eo
def sRetVar (i : Nat) : Sx := fun ρ S => (ρ[i]?.bind Sl.out).map fun r => .ret r S
theorem simS_retVar {i : Nat} : SimS W (tRet (tVar i)) (sRetVar i) := by
  intro B σ H ι ρ S out A e D hD
  unfold sRetVar at e
  cases q : ρ[i]? with
  | none => rw [q] at e; cases e
  | some s =>
    rw [q] at e
    simp only [Option.bind_some] at e
    cases q2 : s.out with
    | none => rw [q2] at e; cases e
    | some r =>
      rw [q2] at e
      cases e
      obtain ⟨v, e1, r1⟩ := slot_out A.N q q2
      exact ⟨v, e1, hD v H ι A.Z A.X r1⟩
/-- return (e, x): x a slot of its own, e nothing lent -/
def sRetPairV (fa : E) (i : Nat) : Sx := fun ρ S => bnd (fa ρ S) fun x S1 => match x, ρ[i]?.bind Sl.out with
  | .l a, some (.l b) => some (.ret (.pr (.l a) (.l b)) S1)
  | .v a, some (.l b) => some (.ret (.pr (.v a) (.l b)) S1)
  | .l a, some (.v b) => some (.ret (.pr (.l a) (.v b)) S1)
  | .v a, some (.v b) => some (.ret (.v (.tup [a, b])) S1)
  | _, _ => none
theorem simS_retPairV {ta : TE} {fa : E} {i : Nat} (ha : SimE W ta fa) : SimS W (tRet (tTup (tCons ta (tCons (tVar i) tNil)))) (sRetPairV fa i) := by
  intro B σ H ι ρ S out A e D hD
  obtain ⟨x, S1, e1, e⟩ := bnd_eq e
  have Z := A.Z
  have X := A.X
  have N := A.N
  refine ha.then Z N e1 fun v1 H1 ι1 Z1 X1 N1 R1 => ?_
  cases q : ρ[i]? with
  | none => rw [q] at e; cases x <;> cases e
  | some s =>
    rw [q] at e
    simp only [Option.bind_some] at e
    cases q2 : s.out with
    | none => rw [q2] at e; cases x <;> cases e
    | some r =>
      rw [q2] at e
      obtain ⟨v2, s2, r2⟩ := slot_out N1 q q2
      refine ⟨v2, s2, by show 2 ≤ sizeLine; decide, fun p hp => ?_⟩
      have XP : Ext ι1 S1.length H1 ι1 S1.length (upd H1 p (.tup [v1, v2])) := Ext.upd hp
      have X01 := X.trans X1 Z
      have R1' : RR W B.H0 ι1 S1.length H1 x v1 := R1.older (fun a q => X.dom Z q) _ _
      have fin : ∀ z : R, ((z = .pr x r ∧ (v1 = v2 → (∃ d, x = .v d) ∨ ∃ d, r = .v d)) ∨ ∃ a b, x = .v a ∧ r = .v b ∧ z = .v (.tup [a, b])) → RR W B.H0 ι1 S1.length (upd H1 p (.tup [v1, v2])) z (.ref p) := by
        intro z hz
        rcases hz with ⟨rfl, hs⟩ | ⟨a, b, rfl, rfl, rfl⟩
        · exact ⟨p, v1, v2, rfl, upd_same, R1'.ext XP Z1, r2.ext XP Z1, hs⟩
        · exact .tup upd_same (.cons (Rep.ext XP Z1 R1') (.cons (Rep.ext XP Z1 r2) .nil))
      have go : ∀ z : R, ((z = .pr x r ∧ (v1 = v2 → (∃ d, x = .v d) ∨ ∃ d, r = .v d)) ∨ ∃ a b, x = .v a ∧ r = .v b ∧ z = .v (.tup [a, b])) → out = .ret z S1 → D.rt (.ref p) (upd H1 p (.tup [v1, v2])) := by
        intro z hz eo
        subst eo
        exact hD _ _ ι1 (Z1.upd hp) (X01.trans XP Z1) (fin z hz)
      split at e
      · rename_i a b eq
        cases eq
        cases e
        refine go _ (.inl ⟨rfl, fun q3 => ?_⟩) rfl
        exfalso
        obtain ⟨c, vs, h1, h2, _, h3, _⟩ := R1
        -- v1 is younger than the slot's list
        have hs : ∃ b' ws, v2 = .ref b' ∧ H b' = some (.lst ws) := by
          obtain ⟨v2', s2', r2'⟩ := slot_out N q q2
          rw [s2] at s2'
          cases s2'
          obtain ⟨b', ws, e5, e6, _⟩ := r2'
          exact ⟨b', ws, e5, e6⟩
        obtain ⟨b', ws, e5, e6⟩ := hs
        rw [h1, e5] at q3
        cases q3
        rw [h3] at e6
        cases e6
      · rename_i a b eq
        cases eq
        cases e
        exact go _ (.inl ⟨rfl, fun _ => .inl ⟨_, rfl⟩⟩) rfl
      · rename_i a b eq
        cases eq
        cases e
        exact go _ (.inl ⟨rfl, fun _ => .inr ⟨_, rfl⟩⟩) rfl
      · rename_i a b eq
        cases eq
        cases e
        exact go _ (.inr ⟨a, b, rfl, rfl, rfl⟩) rfl
      · cases e

/-! ### x = e -/
def slotOf : R → Option Sl
  | .v d => some (.v d)
  | .l xs => some (.l xs)
  | .d k kvs => some (.d k kvs)
  | _ => none
/-- the address of a lending slot holds something -/
theorem lend_there {j : Nat} {t : Sl} {a : Addr} (N : REnv W H0 ι n H ρ σ) (e : ρ[j]? = some t) (hl : t.lends = true) (es : σ[j]? = some (some (.ref a))) : ∃ o, H a = some o := by
  have ok := N.at_ j t _ e es
  cases t with
  | l xs => obtain ⟨b, vs, e1, e2, _⟩ := ok; cases e1; exact ⟨_, e2⟩
  | b xs => obtain ⟨b, vs, e1, e2, _⟩ := ok; cases e1; exact ⟨_, e2⟩
  | d k kvs => obtain ⟨b, e1, e2, _⟩ := ok; cases e1; exact e2.there
  | _ => cases hl
theorem own_lends {t : Sl} (h : t.own = true) : t.lends = true := by
  cases t <;> first | rfl | cases h
/-- a result comes to a slot: Hs the heap at which the slots were known, ahead of the result's making -/
theorem REnv.put {Hs : Hp} {r : R} {s : Sl} {v : V} {i : Nat} (N : REnv W H0 ι n H ρ σ) (hr : RR W Hs ι n H r v) (e : slotOf r = some s) (hd : ∀ a, Hs a = none → H0 a = none)
    (hy : ∀ (j : Nat) t a, ρ[j]? = some t → t.lends = true → σ[j]? = some (some (.ref a)) → ∃ o, Hs a = some o) : REnv W H0 ι n H (ρ.set i s) (σ.set i (some v)) := by
  cases r with
  | v d => cases e; exact N.setV i hr
  | l xs =>
    cases e
    obtain ⟨a, vs, rfl, h1, h2, h3, h4⟩ := hr
    refine N.setS i ⟨a, vs, rfl, h1, h2, hd a h3, h4⟩ (fun j t b hj ej _ hl eb es => ?_) (fun j t b hj ej ho _ eb es => ?_)
    · cases eb
      obtain ⟨o, q⟩ := hy j t a ej hl es
      rw [h3] at q; cases q
    · cases eb
      obtain ⟨o, q⟩ := hy j t a ej (own_lends ho) es
      rw [h3] at q; cases q
  | d k kvs =>
    cases e
    obtain ⟨a, rfl, h1, h3, h4⟩ := hr
    refine N.setS i ⟨a, rfl, h1, hd a h3, h4⟩ (fun j t b hj ej _ hl eb es => ?_) (fun j t b hj ej ho _ eb es => ?_)
    · cases eb
      obtain ⟨o, q⟩ := hy j t a ej hl es
      rw [h3] at q; cases q
    · cases eb
      obtain ⟨o, q⟩ := hy j t a ej (own_lends ho) es
      rw [h3] at q; cases q
  | _ => cases e
def sAsg (i : Nat) (fe : E) : Sx := fun ρ S => bnd (fe ρ S) fun x S1 => (slotOf x).map fun s => .next (ρ.set i s) S1
theorem At.put {r : R} {s : Sl} {v : V} {i : Nat} (A : At W B ι ρ S σ H) (X1 : Ext ι S.length H ι1 S1.length H1) (Z1 : RSt W ι1 H1 S1) (hr : RR W H ι1 S1.length H1 r v) (e : slotOf r = some s) : At W B ι1 (ρ.set i s) S1 (σ.set i (some v)) H1 := by
  have A1 := A.ext X1 Z1
  refine A1.slots (A1.N.put hr e (fun a qa => A.X.dom A.Z qa) fun j t a ej hl es => lend_there A.N ej hl es) fun a o j t q ej ho es => ?_
  rcases get_set ej with ⟨rfl, rfl⟩ | ⟨hj, ej⟩
  · rcases get_set es with ⟨_, es⟩ | ⟨z, _⟩
    · cases es
      have h0 := (A.kp a o q).1
      cases r with
      | l xs => obtain ⟨b, vs, e1, _, _, e3, _⟩ := hr; cases e1; rw [e3] at h0; cases h0
      | d k kvs => obtain ⟨b, e1, _, e3, _⟩ := hr; cases e1; rw [e3] at h0; cases h0
      | v d => cases e; cases ho
      | _ => cases e
    · exact z rfl
  · rcases get_set es with ⟨z, _⟩ | ⟨_, es⟩
    · exact hj z
    · exact A.no a o j t q ej ho es
theorem simS_asg {t : TE} {fe : E} {i : Nat} (h : SimE W t fe) : SimS W (tAsg t (gName i)) (sAsg i fe) := by
  intro B σ H ι ρ S out A e D hD
  obtain ⟨x, S1, e1, e⟩ := bnd_eq e
  cases q : slotOf x with
  | none => rw [q] at e; cases e
  | some s =>
    rw [q] at e
    cases e
    exact h.then A.Z A.N e1 fun v1 H1 ι1 Z1 X1 N1 R1 => hD _ H1 ι1 (A.put X1 Z1 R1 q)

/-! ### (a, b, ..) = e -/
def gUnp (K : PySem.W.Frag) (is : List Nat) : TG := fun v σ H Q => gTup K is.length (gNames is) v σ H Q ∨ gUnl K is.length (gNames is) v σ H Q
theorem PG.or {X : Cx} {tg : Expr} {a b : TG} (h : PG X tg a) (h' : PG X tg b) : PG X tg (fun v σ H Q => a v σ H Q ∨ b v σ H Q) :=
  ⟨fun pins s σ H v u Q I r q => q.elim (h.run pins s σ H v u Q I r) (h'.run pins s σ H v u Q I r)⟩
/-- flat items, or a pair of results -/
def unpack (is : List Nat) (x : R) (S : Store) (ρ : Env) : Option Env := match x with
  | .pr a b => (match is, slotOf a, slotOf b with
    | [i, j], some s, some t => if i ≠ j then some ((ρ.set i s).set j t) else none
    | _, _, _ => none)
  | x => (x.seq S).bind fun ds => setAll is ds ρ
def sUnp (is : List Nat) (fe : E) : Sx := fun ρ S => bnd (fe ρ S) fun x S1 => (unpack is x S1 ρ).map fun ρ1 => .next ρ1 S1
theorem setAll_own : ∀ {is : List Nat} {ds : List D} {ρ ρ' : Env} {j : Nat} {t : Sl}, setAll is ds ρ = some ρ' → ρ'[j]? = some t → t.own = true → ρ[j]? = some t ∧ j ∉ is
  | [], [], ρ, ρ', j, t, h, e, ho => by cases h; exact ⟨e, by simp⟩
  | [], _ :: _, _, _, _, _, h, _, _ => by cases h
  | _ :: _, [], _, _, _, _, h, _, _ => by cases h
  | i :: is, d :: ds, ρ, ρ', j, t, h, e, ho => by
    obtain ⟨e1, e2⟩ := setAll_own (is := is) (ds := ds) h e ho
    rcases get_set e1 with ⟨_, rfl⟩ | ⟨hj, e1⟩
    · cases ho
    · exact ⟨e1, fun z => (List.mem_cons.mp z).elim hj e2⟩
theorem At.names : ∀ {is : List Nat} {σ : St} {ρ ρ' : Env} {ds : List D} {vs : List V}, At W B ι ρ S σ H → Reps ι S.length H ds vs → setAll is ds ρ = some ρ' → ∀ Q : St → Hp → Prop,
    (∀ σ', At W B ι ρ' S σ' H → (∀ us : List Nat, (∀ j ∈ is, j ∈ us) → wipe σ' us = wipe σ us) → Q σ' H) → gNames is vs σ H Q
  | [], σ, ρ, ρ', ds, vs, A, r, e, Q, hQ => by
    cases ds with
    | nil => cases e; cases r; exact ⟨rfl, hQ _ A fun _ _ => rfl⟩
    | cons d ds => cases e
  | i :: is, σ, ρ, ρ', ds, vs, A, r, e, Q, hQ => by
    cases ds with
    | nil => cases e
    | cons d ds =>
      cases r with
      | cons r1 r2 =>
        refine ⟨_, _, rfl, At.names (A.setV i r1) r2 e Q fun σ' N' h => hQ σ' N' fun us hu => ?_⟩
        rw [h us fun j hj => hu j (List.mem_cons_of_mem _ hj)]
        exact wipe_set (hu i List.mem_cons_self)
theorem simS_unp {t : TE} {fe : E} {is : List Nat} {K : PySem.W.Frag} (h : SimE W t fe) : SimS W (tAsg t (gUnp K is)) (sUnp is fe) := by
  intro B σ H ι ρ S out A e D hD
  obtain ⟨x, S1, e1, e⟩ := bnd_eq e
  cases q : unpack is x S1 ρ with
  | none => rw [q] at e; cases e
  | some ρ1 =>
    rw [q] at e
    cases e
    refine h.then A.Z A.N e1 fun v1 H1 ι1 Z1 X1 N1 R1 => ?_
    have A1 := A.ext X1 Z1
    have seq : ∀ ds, x.seq S1 = some ds → setAll is ds ρ = some ρ1 → gUnp K is v1 σ H1 D.nx := fun ds q1 q2 => by
      obtain ⟨a, vs, rfl, h1, h2⟩ := seq_rep Z1 R1 q1
      have fin := At.names A1 h2 q2 D.nx fun σ' A' _ => hD σ' H1 ι1 A'
      have hl : vs.length = is.length := by rw [← h2.length, setAll_len q2]
      rcases h1 with h1 | h1
      · exact .inr ⟨a, vs, rfl, .inl h1, hl, fin⟩
      · exact .inl ⟨a, vs, rfl, .of h1, hl, fin⟩
    unfold unpack at q
    split at q
    · rename_i a b
      split at q
      · rename_i i j s t qa qb
        split at q
        · rename_i hij
          cases q
          obtain ⟨p, x, y, rfl, h1, h2, h3, h4⟩ := R1
          refine .inl ⟨p, [x, y], rfl, .of h1, rfl, x, [y], rfl, y, [], rfl, rfl, hD _ H1 ι1 ?_⟩
          have A2 : At W B ι1 (ρ.set i s) S1 (σ.set i (some x)) H1 := A.put X1 Z1 h2 qa
          have hy0 : ∀ (j : Nat) t a, ρ[j]? = some t → t.lends = true → σ[j]? = some (some (.ref a)) → ∃ o, H a = some o := fun j t a ej hl es => lend_there A.N ej hl es
          -- the second one: apart from the first, from all slots, from what is walked
          have ap : ∀ (c : Addr), y = .ref c → H c = none → (∃ d, b = .v d) ∨ ∀ (k : Nat) t e, k ≠ j → (ρ.set i s)[k]? = some t → t.lends = true → e = c → (σ.set i (some x))[k]? ≠ some (some (.ref e)) := fun c ec k3 => by
            by_cases hb : ∃ d, b = .v d
            · exact .inl hb
            · refine .inr fun k t e hk ek hl ee es => ?_
              subst ee
              rcases get_set ek with ⟨rfl, rfl⟩ | ⟨hki, ek⟩
              · rcases get_set es with ⟨_, es⟩ | ⟨q, _⟩
                · cases es
                  rcases h4 ec.symm with ⟨d, rfl⟩ | q
                  · cases qa; cases hl
                  · exact hb q
                · exact q rfl
              · rcases get_set es with ⟨q, _⟩ | ⟨_, es⟩
                · exact hki q
                · obtain ⟨o, q⟩ := hy0 k t e ek hl es
                  rw [k3] at q; cases q
          have fin : ∀ (c : Addr), y = .ref c → H c = none → SlOk W B.H0 ι1 S1.length H1 (some y) t → (∀ d, b ≠ .v d) → At W B ι1 ((ρ.set i s).set j t) S1 ((σ.set i (some x)).set j (some y)) H1 := fun c ec k3 ok nb => by
            have apc := (ap c ec k3).resolve_left fun ⟨d, q⟩ => nb d q
            refine A2.slots (A2.N.setS j ok (fun k t e hk ek _ hl ee => apc k t e hk ek hl ?_) (fun k t e hk ek ho _ ee => apc k t e hk ek (own_lends ho) ?_)) fun a o k u q ek ho es => ?_
            · rw [ec] at ee; cases ee; rfl
            · rw [ec] at ee; cases ee; rfl
            · rcases get_set ek with ⟨rfl, rfl⟩ | ⟨hk, ek⟩
              · rcases get_set es with ⟨_, es⟩ | ⟨z, _⟩
                · rw [ec] at es
                  cases es
                  have h0 := (A.kp _ o q).1
                  rw [k3] at h0
                  cases h0
                · exact z rfl
              · rcases get_set es with ⟨z, _⟩ | ⟨_, es⟩
                · exact hk z
                · exact A2.no a o k u q ek ho es
          cases b with
          | v d => cases qb; exact A2.setV j h3
          | l ys =>
            cases qb
            obtain ⟨c, ws, rfl, k1, k2, k3, k4⟩ := h3
            exact fin c rfl k3 ⟨c, ws, rfl, k1, k2, A.X.dom A.Z k3, k4⟩ fun d q => by cases q
          | d k' kvs =>
            cases qb
            obtain ⟨c, rfl, k1, k3, k4⟩ := h3
            exact fin c rfl k3 ⟨c, rfl, k1, A.X.dom A.Z k3, k4⟩ fun d q => by cases q
          | _ => cases qb
        · cases q
      · cases q
    · cases q1 : x.seq S1 with
      | none => rw [q1] at q; cases q
      | some ds => rw [q1] at q; exact seq ds q1 q

/-! ### a, b = x, y -/
def sPar (i j : Nat) (fa fb : E) : Sx := fun ρ S => bnd (fa ρ S) fun x S1 => bnd (fb ρ S1) fun y S2 => match x, y with
  | .v a, .v b => some (.next ((ρ.set i (.v a)).set j (.v b)) S2)
  | _, _ => none
theorem simS_par {ta tb : TE} {fa fb : E} {i j : Nat} (ha : SimE W ta fa) (hb : SimE W tb fb) : SimS W (tPar i j (tCons ta (tCons tb tNil))) (sPar i j fa fb) := by
  intro B σ H ι ρ S out A e D hD
  obtain ⟨x, S1, e1, e⟩ := bnd_eq e
  obtain ⟨y, S2, e2, e⟩ := bnd_eq e
  split at e
  · cases e
    refine ha.then A.Z A.N e1 fun v1 H1 ι1 Z1 X1 N1 R1 => hb.then Z1 N1 e2 fun v2 H2 ι2 Z2 X2 N2 R2 => ⟨v1, v2, rfl, ?_⟩
    exact hD _ H2 ι2 ((((A.ext X1 Z1).ext X2 Z2).setV i (R1.ext X2 Z1)).setV j R2)
  · cases e

/-! ### if, for, while -/
def sIf (ft : E) (fa fb : Sx) : Sx := fun ρ S => bnd (ft ρ S) fun x S1 => match x.bool with
  | some true => fa ρ S1
  | some false => fb ρ S1
  | none => none
theorem simS_if {tt : TT} {ft : E} {ta tb : TS} {fa fb : Sx} (ht : SimT W tt ft) (ha : SimS W ta fa) (hb : SimS W tb fb) : SimS W (tIfS tt ta tb) (sIf ft fa fb) := by
  intro B σ H ι ρ S out A e D hD
  obtain ⟨x, S1, e1, e⟩ := bnd_eq e
  cases q : x.bool with
  | none => rw [q] at e; cases e
  | some b =>
    rw [q] at e
    have ex := bool_eq q
    subst ex
    refine ht.then A.Z A.N e1 fun H1 ι1 Z1 X1 N1 => ?_
    cases b with
    | true => exact ha B σ H1 ι1 ρ S1 out (A.ext X1 Z1) e D hD
    | false => exact hb B σ H1 ι1 ρ S1 out (A.ext X1 Z1) e D hD
def loopF (tg : Tg) (body : Sx) (src : Src) : List D → Env → Store → Option Out
  | [], ρ, S => if src.alive S then some (.next ρ S) else none
  | d :: r, ρ, S => if src.alive S then (match tg d ρ with
    | some ρ1 => (match body ρ1 S with
      | some (.next ρ2 S2) => loopF tg body src r ρ2 S2
      | some (.cont ρ2 S2) => loopF tg body src r ρ2 S2
      | some (.brk ρ2 S2) => some (.next ρ2 S2)
      | some (.ret x S2) => some (.ret x S2)
      | none => none)
    | none => none) else none
theorem loopF_alive {tg : Tg} {body : Sx} {src : Src} {its : List D} {r : Out} (h : loopF tg body src its ρ S = some r) : src.alive S = true := by
  cases its with
  | nil =>
    unfold loopF at h
    split at h
    · assumption
    · cases h
  | cons d ds =>
    unfold loopF at h
    split at h
    · assumption
    · cases h
def sFor (fi : Fi) (tg : Tg) (body : Sx) : Sx := fun ρ S => bnd (fi ρ S) fun p S1 => if p.2.2 then loopF tg body p.2.1 p.1 ρ S1 else none
/-- a target's simulation, with what is around -/
theorem simG_at {g : TG} {tg : Tg} {js : List Nat} {d : D} {v : V} {ρ' : Env} (hg : SimG W g tg js) (ho : ∀ (ρ ρ' : Env) d (j : Nat) t, tg d ρ = some ρ' → ρ'[j]? = some t → t.own = true → ρ[j]? = some t ∧ j ∉ js)
    (hw : ∀ {σ σ' : St} (j : Nat), (∀ vs : List Nat, (∀ k ∈ js, k ∈ vs) → wipe σ' vs = wipe σ vs) → j ∉ js → σ'[j]? = σ[j]?)
    (A : At W B ι ρ S σ H) (r : Rep ι S.length H d v) (e : tg d ρ = some ρ') {Q : St → Hp → Prop} (hQ : ∀ σ', At W B ι ρ' S σ' H → Q σ' H) : g v σ H Q :=
  hg σ H ι ρ S B.H0 d v ρ' A.Z A.N r e Q fun σ' N' w => hQ σ' (A.slots N' fun a o j t q ej hown es => by
    obtain ⟨e1, e2⟩ := ho ρ ρ' d j t e ej hown
    rw [hw j w e2] at es
    exact A.no a o j t q e1 hown es)
/-- a target as the layer has them -/
structure TgOk (W : Wd) (g : TG) (tg : Tg) (js : List Nat) : Prop where
  sim : SimG W g tg js
  own : ∀ (ρ ρ' : Env) d (j : Nat) t, tg d ρ = some ρ' → ρ'[j]? = some t → t.own = true → ρ[j]? = some t ∧ j ∉ js
theorem wipe_eq {σ σ' : St} {js : List Nat} (j : Nat) (h : ∀ vs : List Nat, (∀ k ∈ js, k ∈ vs) → wipe σ' vs = wipe σ vs) (hj : j ∉ js) : σ'[j]? = σ[j]? := by
  have q := congrArg (fun l : St => l[j]?) (h js fun _ z => z)
  simp only [L2.wipe_out hj] at q
  exact q
theorem tg_name {i : Nat} : TgOk W (gName i) (tgName i) [i] := ⟨simG_name, fun ρ ρ' d j t e ej ho => by
  cases e
  rcases get_set ej with ⟨_, rfl⟩ | ⟨hj, ej⟩
  · cases ho
  · exact ⟨ej, by simpa using hj⟩⟩
theorem tg_tup {K : PySem.W.Frag} {is : List Nat} : TgOk W (gTup K is.length (gNames is)) (tgTup is) is := ⟨simG_tup, fun ρ ρ' d j t e ej ho => by
  unfold tgTup at e
  split at e
  · exact setAll_own e ej ho
  · cases e⟩
theorem simS_for {wi : TI} {fi : Fi} {g : TG} {tg : Tg} {js : List Nat} {tb : TS} {body : Sx} (hi : SimI W wi fi) (hg : TgOk W g tg js) (hb : SimS W tb body) : SimS W (tFor wi g tb) (sFor fi tg body) := by
  intro B σ H ι ρ S out A e D hD
  obtain ⟨⟨its, src, ok⟩, S1, e1, e⟩ := bnd_eq e
  simp only at e
  by_cases hok : ok = true
  · rw [if_pos hok] at e
    refine hi σ H ι ρ S B.H0 its src ok S1 A.Z A.N e1 _ fun J H1 ι1 P Z1 X1 hP hno wk => ?_
    have A1 := A.ext X1 Z1
    -- what the walk needs, beside what is needed around
    let PB : Hp := fun a => match P a with
      | some o => some o
      | none => B.P a
    have hPB : ∀ a o, PB a = some o → P a = some o ∨ B.P a = some o := fun a o q => by
      show P a = some o ∨ B.P a = some o
      cases qa : P a with
      | some u =>
        have q' : (match P a with | some o => some o | none => B.P a) = some o := q
        rw [qa] at q'
        exact .inl q'
      | none =>
        have q' : (match P a with | some o => some o | none => B.P a) = some o := q
        rw [qa] at q'
        exact .inr q'
    have hPB2 : ∀ a o, P a = some o → PB a = some o := fun a o q => by
      show (match P a with | some o => some o | none => B.P a) = some o
      rw [q]
    have hPB3 : ∀ a o, B.P a = some o → PB a = some o := fun a o q => by
      show (match P a with | some o => some o | none => B.P a) = some o
      cases qa : P a with
      | none => exact q
      | some u =>
        have h1 := (hP a u qa).1
        have h2 := (A1.kp a o q).1
        rw [h1] at h2
        exact h2
    let B2 : Bas := { B with ιw := ι1, nw := S1.length, P := PB }
    have A2 : At W B2 ι1 ρ S1 σ H1 := ⟨A1.Z, A1.X, A1.N, Nat.le_refl _, fun _ _ => rfl, fun a o q => (hPB a o q).elim (hP a o) (A1.kp a o), fun a o i s q ei ho => (hPB a o q).elim (fun z => hno hok a o i s z ei ho) fun z => A1.no a o i s z ei ho⟩
    have back : ∀ {ι' : Nat → Addr} {ρ' : Env} {S' : Store} {σ' : St} {H' : Hp}, At W B2 ι' ρ' S' σ' H' → At W B ι' ρ' S' σ' H' := fun A' => ⟨A'.Z, A'.X, A'.N, Nat.le_trans A1.le A'.le, fun h hh => (A'.sm h (Nat.lt_of_lt_of_le hh A1.le)).trans (A1.sm h hh), fun a o q => A'.kp a o (hPB3 a o q), fun a o i s q => A'.no a o i s (hPB3 a o q)⟩
    refine ⟨fun i m σh Hh => m = its.length - i ∧ i ≤ its.length ∧ ∃ (ι' : Nat → Addr) (ρh : Env) (Sh : Store), At W B2 ι' ρh Sh σh Hh ∧ loopF tg body src (its.drop i) ρh Sh = some out,
      ⟨its.length, by simp, Nat.zero_le _, ι1, ρ, S1, A2, by simpa using e⟩, ?_⟩
    rintro i m σh Hh ⟨rfl, hil, ι', ρh, Sh, Ah, el⟩
    have al := loopF_alive el
    have kpP : ∀ a o, P a = some o → Hh a = some o := fun a o q => (Ah.kp a o (hPB2 a o q)).1
    by_cases hlt : i < its.length
    · refine .inr ?_
      obtain ⟨d, hd⟩ : ∃ d, its[i]? = some d := ⟨its[i], by simp [hlt]⟩
      obtain ⟨go, yl⟩ := wk.go i d ι' Sh Hh Ah.Z Ah.le Ah.sm kpP al hd
      have hdrop : its.drop i = d :: its.drop (i + 1) := by
        rw [List.drop_eq_getElem_cons hlt, (List.getElem?_eq_some_iff.mp hd).2]
      rw [hdrop] at el
      unfold loopF at el
      rw [if_pos al] at el
      split at el
      · rename_i ρ1 eg
        refine ⟨go, fun σ2 H2 => ∃ (ι' : Nat → Addr) (ρh : Env) (Sh : Store), At W B2 ι' ρh Sh σ2 H2 ∧ loopF tg body src (its.drop (i + 1)) ρh Sh = some out,
          fun σ2 H2 q => ⟨its.length - (i + 1), by omega, rfl, hlt, q⟩, fun x H2 y => ?_⟩
        obtain ⟨Zx, Xx, rx⟩ := yl x H2 y
        have Ax := Ah.ext Xx Zx
        refine simG_at hg.sim hg.own (fun j w hj => wipe_eq j w hj) Ax rx eg fun σ2 A3 => ?_
        cases qb : body ρ1 Sh with
        | none => rw [qb] at el; cases el
        | some o =>
          rw [qb] at el
          refine hb B2 σ2 H2 ι' ρ1 Sh o A3 qb _ ?_
          cases o with
          | next ρ2 S2 => exact fun σ' H' ι2 A' => ⟨ι2, ρ2, S2, A', el⟩
          | cont ρ2 S2 => exact fun σ' H' ι2 A' => ⟨ι2, ρ2, S2, A', el⟩
          | brk ρ2 S2 => cases el; exact fun σ' H' ι2 A' => hD σ' H' ι2 (back A')
          | ret z S2 => cases el; exact hD
      · cases el
    · refine .inl ?_
      have ei : i = its.length := by omega
      subst ei
      rw [List.drop_length] at el
      unfold loopF at el
      rw [if_pos al] at el
      cases el
      exact ⟨wk.stop _ ι' Sh Hh Ah.Z Ah.le Ah.sm kpP al (Nat.le_refl _), hD σh Hh ι' (back Ah)⟩
  · rw [if_neg hok] at e; cases e
/-- a slot's own list is lent from now on -/
def lend (i : Nat) (ρ : Env) : Env := match ρ[i]? with
  | some (.l xs) => ρ.set i (.b xs)
  | _ => ρ
theorem At.lend (A : At W B ι ρ S σ H) (i : Nat) : At W B ι (lend i ρ) S σ H := by
  unfold Ev.lend
  split
  · rename_i xs q
    have hi : i < σ.length := by
      have := (List.getElem?_eq_some_iff.mp q).1
      rw [A.N.len] at this
      exact this
    have qs : σ[i]? = some σ[i] := by simp [hi]
    obtain ⟨a, vs, k1, k2, k3, k4, k5⟩ := A.N.at_ i _ _ q qs
    have es : σ.set i (some (.ref a)) = σ := by
      rw [← k1]; simp
    have N' : REnv W B.H0 ι S.length H (ρ.set i (.b xs)) (σ.set i (some (.ref a))) := by
      refine A.N.setS i ⟨a, vs, rfl, k2, k3, k5⟩ (fun _ _ _ _ _ z _ _ => by cases z) fun j t b hj ej ho _ eb es2 => ?_
      cases eb
      exact A.N.sep j i t _ a hj ej q ho rfl es2 (by rw [qs, k1])
    rw [es] at N'
    refine A.slots N' fun b o j t qb ej ho es2 => ?_
    rcases get_set ej with ⟨_, rfl⟩ | ⟨hj, ej⟩
    · cases ho
    · exact A.no b o j t qb ej ho es2
  · exact A
/-- for .. in a slot: its list is lent from then on -/
def sForV (i : Nat) (fi : Fi) (tg : Tg) (body : Sx) : Sx := fun ρ S => sFor fi tg body (lend i ρ) S
theorem simS_forV {wi : TI} {fi : Fi} {g : TG} {tg : Tg} {js : List Nat} {tb : TS} {body : Sx} {i : Nat} (hi : SimI W wi fi) (hg : TgOk W g tg js) (hb : SimS W tb body) : SimS W (tFor wi g tb) (sForV i fi tg body) :=
  fun B σ H ι ρ S out A e D hD => simS_for hi hg hb B σ H ι _ S out (A.lend i) e D hD
def whileF (ft : E) (body : Sx) : Nat → Env → Store → Option Out
  | 0, _, _ => none
  | m + 1, ρ, S => bnd (ft ρ S) fun x S1 => match x.bool with
    | some true => (match body ρ S1 with
      | some (.next ρ2 S2) => whileF ft body m ρ2 S2
      | some (.cont ρ2 S2) => whileF ft body m ρ2 S2
      | some (.brk ρ2 S2) => some (.next ρ2 S2)
      | some (.ret z S2) => some (.ret z S2)
      | none => none)
    | some false => some (.next ρ S1)
    | none => none
theorem simS_while {tt : TT} {ft : E} {tb : TS} {body : Sx} {m : Nat} (ht : SimT W tt ft) (hb : SimS W tb body) : SimS W (tWhile tt tb) (whileF ft body m) := by
  intro B σ H ι ρ S out A e D hD
  refine ⟨fun k σh Hh => ∃ (ι' : Nat → Addr) (ρh : Env) (Sh : Store), At W B ι' ρh Sh σh Hh ∧ whileF ft body k ρh Sh = some out, ⟨m, ι, ρ, S, A, e⟩, ?_⟩
  rintro k σh Hh ⟨ι', ρh, Sh, Ah, el⟩
  cases k with
  | zero => cases el
  | succ k =>
    obtain ⟨x, S1, e1, el⟩ := bnd_eq el
    cases q : x.bool with
    | none => rw [q] at el; cases el
    | some b =>
      rw [q] at el
      have ex := bool_eq q
      subst ex
      refine ht.then Ah.Z Ah.N e1 fun H1 ι1 Z1 X1 N1 => ?_
      have A1 := Ah.ext X1 Z1
      cases b with
      | false =>
        cases el
        simp only [Bool.false_eq_true, if_false]
        exact hD σh H1 ι1 A1
      | true =>
        simp only [if_true]
        refine ⟨fun σ2 H2 => ∃ (ι' : Nat → Addr) (ρh : Env) (Sh : Store), At W B ι' ρh Sh σ2 H2 ∧ whileF ft body k ρh Sh = some out, fun σ2 H2 q => ⟨k, Nat.lt_succ_self _, q⟩, ?_⟩
        simp only at el
        cases qb : body ρh S1 with
        | none => rw [qb] at el; cases el
        | some o =>
          rw [qb] at el
          refine hb B σh H1 ι1 ρh S1 o A1 qb _ ?_
          cases o with
          | next ρ2 S2 => exact fun σ' H' ι2 A' => ⟨ι2, ρ2, S2, A', el⟩
          | cont ρ2 S2 => exact fun σ' H' ι2 A' => ⟨ι2, ρ2, S2, A', el⟩
          | brk ρ2 S2 => cases el; exact fun σ' H' ι2 A' => hD σ' H' ι2 A'
          | ret z S2 => cases el; exact hD
end
end Ev

set_option Elab.async false
set_option linter.all false
set_option maxRecDepth 100000
set_option maxHeartbeats 4000000
/-! What changes lists, dicts, objects. -/
namespace Ev
open PySem L2

section
variable {W : Wd} {B : Bas} {ι ι' ι1 ι0 : Nat → Addr} {n n' : Nat} {H H' H0 H1 : Hp} {S S' S1 S0 : Store} {ρ : Env} {σ : St}

/-! ### an object of the store is changed -/
theorem RSt.keepT {h : Nat} {o' : HO} (Z : RSt W ι H S) (hh : h < S.length) : ∀ b vs, H b = some (.tup vs) → (L2.upd H (ι h) o') b = some (.tup vs) := fun b vs q => by
  rw [L2.upd_ne (Z.tup_ne q h hh)]
  exact q
theorem RSt.setO {h : Nat} {o' : HO} {ob : Ob} (Z : RSt W ι H S) (hh : h < S.length) (new : RepO W ι S.length (L2.upd H (ι h) o') (ι h) ob) : RSt W ι (L2.upd H (ι h) o') (S.set h ob) := by
  refine ⟨fun k u e => ?_, fun i j hi hj => ?_⟩
  · rw [List.length_set]
    rcases get_set e with ⟨rfl, rfl⟩ | ⟨hk, e⟩
    · exact new
    · have hk2 := (List.getElem?_eq_some_iff.mp e).1
      exact (Z.at_ k u e).mono (Nat.le_refl _) (fun _ _ => rfl) (Z.keepT hh) fun w q => by
        rw [L2.upd_ne fun z => hk (Z.inj k h hk2 hh z)]
        exact q
  · rw [List.length_set] at hi hj
    exact Z.inj i j hi hj
theorem Ext.setO {h : Nat} {o' : HO} (hh : h < n) : Ext ι n H ι n (L2.upd H (ι h) o') :=
  ⟨Nat.le_refl _, fun _ _ => rfl, fun a o e ha => by rw [L2.upd_ne (ha h hh)]; exact e, fun k h1 h2 => absurd h2 (by omega)⟩
theorem Rep.setO {h : Nat} {o' : HO} {d : D} {v : V} (r : Rep ι S.length H d v) (Z : RSt W ι H S) (hh : h < S.length) : Rep ι S.length (L2.upd H (ι h) o') d v := Rep.mono (Nat.le_refl _) (fun _ _ => rfl) (Z.keepT hh) _ _ r
theorem Reps.setO {h : Nat} {o' : HO} {d : List D} {v : List V} (r : Reps ι S.length H d v) (Z : RSt W ι H S) (hh : h < S.length) : Reps ι S.length (L2.upd H (ι h) o') d v := Reps.mono (Nat.le_refl _) (fun _ _ => rfl) (Z.keepT hh) _ _ r

/-! ### what a slot holds of its own is changed -/
theorem At.mut {i : Nat} {s s' : Sl} {a : Addr} {o' : HO} (A : At W B ι ρ S σ H) (e : ρ[i]? = some s) (ho : s.own = true) (es : σ[i]? = some (some (.ref a))) (ho' : s'.own = true)
    (ok' : (∀ b vs, H b = some (.tup vs) → (L2.upd H a o') b = some (.tup vs)) → SlOk W B.H0 ι S.length (L2.upd H a o') (some (.ref a)) s') : At W B ι (ρ.set i s') S σ (L2.upd H a o') := by
  obtain ⟨u, hu⟩ := own_there A.N e ho es
  have nt : ∀ vs, u ≠ .tup vs := fun vs z => own_tup A.N e ho es (by rw [hu, z])
  have hb : ∀ h, h < S.length → a ≠ ι h := by
    have ok := A.N.at_ i s _ e es
    cases s with
    | l xs => obtain ⟨b, vs, e1, _, _, _, e5⟩ := ok; cases e1; exact e5
    | d k kvs => obtain ⟨b, e1, _, _, e5⟩ := ok; cases e1; exact e5
    | _ => cases ho
  have h0 : B.H0 a = none := by
    have ok := A.N.at_ i s _ e es
    cases s with
    | l xs => obtain ⟨b, vs, e1, _, _, e4, _⟩ := ok; cases e1; exact e4
    | d k kvs => obtain ⟨b, e1, _, e4, _⟩ := ok; cases e1; exact e4
    | _ => cases ho
  have keepT : ∀ b vs, H b = some (.tup vs) → (L2.upd H a o') b = some (.tup vs) := fun b vs q => by
    by_cases z : b = a
    · subst z
      rw [hu] at q
      exact absurd (Option.some.inj q) (nt vs)
    · rw [L2.upd_ne z]; exact q
  have es' : σ.set i (some (.ref a)) = σ := by
    have hi := (List.getElem?_eq_some_iff.mp es).1
    have q := (List.getElem?_eq_some_iff.mp es).2
    rw [← q]
    simp
  -- the other slots stand as they did
  have N1 : REnv W B.H0 ι S.length (L2.upd H a o') (ρ.set i .no) (σ.set i none) := by
    refine ⟨by rw [List.length_set, List.length_set]; exact A.N.len, fun j t v e1 e2 => ?_, fun j k s1 t1 b hjk e1 e2 o1 o2 e3 => ?_⟩
    · rcases get_set e1 with ⟨_, rfl⟩ | ⟨hj, e1⟩
      · trivial
      · rcases get_set e2 with ⟨z, _⟩ | ⟨_, e2⟩
        · exact absurd z hj
        · have ok := A.N.at_ j t v e1 e2
          have apart : ∀ c, t.lends = true → v = some (.ref c) → c ≠ a := fun c hl ev z => by
            subst z
            exact A.N.sep i j s t c (Ne.symm hj) e e1 ho hl es (by rw [e2, ev])
          cases t with
          | no => trivial
          | v d => obtain ⟨w, e3, r⟩ := ok; exact ⟨w, e3, Rep.mono (Nat.le_refl _) (fun _ _ => rfl) keepT _ _ r⟩
          | l xs =>
            obtain ⟨c, vs, e3, e4, e5, e6, e7⟩ := ok
            exact ⟨c, vs, e3, by rw [L2.upd_ne (apart c rfl e3)]; exact e4, Reps.mono (Nat.le_refl _) (fun _ _ => rfl) keepT _ _ e5, e6, e7⟩
          | b xs =>
            obtain ⟨c, vs, e3, e4, e5, e7⟩ := ok
            exact ⟨c, vs, e3, by rw [L2.upd_ne (apart c rfl e3)]; exact e4, Reps.mono (Nat.le_refl _) (fun _ _ => rfl) keepT _ _ e5, e7⟩
          | f xs =>
            obtain ⟨c, vs, e3, e4, e5⟩ := ok
            refine ⟨c, vs, e3, ?_, Reps.mono (Nat.le_refl _) (fun _ _ => rfl) keepT _ _ e5⟩
            rcases e4 with ⟨o, e4, e7⟩ | e4
            · refine .inl ⟨o, ?_, e7⟩
              have hc : c ≠ a := fun z => by
                have ok2 := A.N.at_ i s _ e es
                cases s with
                | l ys => obtain ⟨b, ws, c1, c2, _⟩ := ok2; cases c1; rw [← z, e4] at c2; cases c2
                | d k kvs =>
                  obtain ⟨b, c1, c2, _⟩ := ok2
                  cases c1
                  have m := mut_dic c2
                  rw [← z, e4] at m
                  exact m
                | _ => cases ho
              rw [L2.upd_ne hc]; exact e4
            · exact .inr e4
          | d k kvs =>
            obtain ⟨c, e3, e4, e6, e7⟩ := ok
            exact ⟨c, e3, e4.mono (Nat.le_refl _) (fun _ _ => rfl) keepT fun o q => by rw [L2.upd_ne (apart c rfl e3)]; exact q, e6, e7⟩
    · rcases get_set e1 with ⟨_, rfl⟩ | ⟨hj, e1⟩
      · cases o1
      · rcases get_set e2 with ⟨_, rfl⟩ | ⟨hk, e2⟩
        · cases o2
        · rcases get_set e3 with ⟨z, _⟩ | ⟨_, e3⟩
          · exact absurd z hj
          · rw [List.getElem?_set_ne (Ne.symm hk)]
            exact A.N.sep j k s1 t1 b hjk e1 e2 o1 o2 e3
  have N2 := N1.setS i (s := s') (o := some (.ref a)) (ok' keepT) (fun j t b hj ej _ hl eb => by
    cases eb
    rcases get_set ej with ⟨z, _⟩ | ⟨_, ej⟩
    · exact absurd z hj
    · rw [List.getElem?_set_ne (Ne.symm hj)]
      exact A.N.sep i j s t a (Ne.symm hj) e ej ho hl es) (fun j t b hj ej hw _ eb es2 => by
    cases eb
    rcases get_set ej with ⟨z, _⟩ | ⟨_, ej⟩
    · exact hj z
    · rw [List.getElem?_set_ne (Ne.symm hj)] at es2
      exact A.N.sep i j s t a (Ne.symm hj) e ej ho (own_lends hw) es es2)
  rw [List.set_set, List.set_set, es'] at N2
  refine ⟨A.Z.updAt hb hu nt, A.X.updNew h0, N2, A.le, A.sm, fun b o q => ⟨?_, (A.kp b o q).2⟩, fun b o j t q ej hw es2 => ?_⟩
  · rw [L2.upd_ne fun z => A.no b o i s q e ho (by rw [z]; exact es)]
    exact (A.kp b o q).1
  · rcases get_set ej with ⟨rfl, rfl⟩ | ⟨hj, ej⟩
    · rw [es] at es2
      cases es2
      exact A.no a o j s q e ho es
    · exact A.no b o j t q ej hw es2

/-! ### x.append(e) -/
def tApp (K : PySem.W.Frag) (to te : TE) : TE := tBM K "list" rAppend to (tCons te tNil)
theorem ty_list {K : PySem.W.Frag} {a : Addr} {vs : List V} (h : H a = some (.lst vs)) : tyV K "list" (.ref a) H := .inl ⟨rfl, vs, .of h⟩
/-- of a list of the store -/
def sApp (fo fe : E) : Sx := fun ρ S => bnd (fo ρ S) fun x S1 => bnd (fe ρ S1) fun y S2 => match x, y with
  | .v (.ob h), .v d => (match S2[h]?, S1[h]? with
    | some (.lst xs), some (.lst _) => if xs.length < cap then some (.next ρ (S2.set h (.lst (xs ++ [d])))) else none
    | _, _ => none)
  | _, _ => none
theorem simS_app {K : PySem.W.Frag} {to te : TE} {fo fe : E} (ho : SimE W to fo) (he : SimE W te fe) : SimS W (tDrop (tApp K to te)) (sApp fo fe) := by
  intro B σ H ι ρ S out A e D hD
  obtain ⟨x, S1, e1, e'⟩ := bnd_eq e
  obtain ⟨y, S2, e2, e2'⟩ := bnd_eq e'
  clear e e'
  split at e2'
  · rename_i h d
    split at e2'
    · rename_i xs ys q qy
      split at e2'
      · rename_i c
        cases e2'
        refine ho.then A.Z A.N e1 fun v1 H1 ι1 Z1 X1 N1 R1 => ?_
        have R1' : Rep ι1 S1.length H1 (.ob h) v1 := R1
        cases R1' with
        | ob hh =>
          obtain ⟨ws, w1, _⟩ := Z1.at_ h _ qy
          refine ⟨ty_list w1, he.then Z1 N1 e2 fun v2 H2 ι2 Z2 X2 N2 R2 => ?_⟩
          have hh2 : h < S2.length := Nat.lt_of_lt_of_le hh X2.le
          obtain ⟨us, u1, u2⟩ := Z2.at_ h _ q
          have R2' : Rep ι2 S2.length H2 d v2 := R2
          rw [← X2.same h hh]
          refine ⟨ι2 h, us, v2, rfl, rfl, u1, by rw [← u2.length, ← cap_eq]; exact c, ?_⟩
          have A2 := (A.ext X1 Z1).ext X2 Z2
          have Z3 : RSt W ι2 (upd H2 (ι2 h) (.lst (us ++ [v2]))) (S2.set h (.lst (xs ++ [d]))) := Z2.setO hh2 ⟨_, upd_same, (u2.setO Z2 hh2).append (.cons (R2'.setO Z2 hh2) .nil)⟩
          have X3 : Ext ι2 S2.length H2 ι2 S2.length (upd H2 (ι2 h) (.lst (us ++ [v2]))) := Ext.setO hh2
          exact hD _ _ ι2 (A2.ext (by rw [List.length_set]; exact X3) Z3)
      · cases e2'
    · cases e2'
  · cases e2'
/-- of a slot's own list -/
def sAppV (i : Nat) (fe : E) : Sx := fun ρ S => bnd (fe ρ S) fun y S1 => match ρ[i]?, y with
  | some (.l xs), .v d => if xs.length < cap then some (.next (ρ.set i (.l (xs ++ [d]))) S1) else none
  | _, _ => none
theorem own_list {i : Nat} {xs : List D} (N : REnv W H0 ι n H ρ σ) (e : ρ[i]? = some (.l xs)) : ∃ a vs, σ[i]? = some (some (.ref a)) ∧ H a = some (.lst vs) ∧ Reps ι n H xs vs ∧ H0 a = none ∧ ∀ h, h < n → a ≠ ι h := by
  have hi : i < σ.length := by
    have := (List.getElem?_eq_some_iff.mp e).1
    rw [N.len] at this
    exact this
  have qs : σ[i]? = some σ[i] := by simp [hi]
  obtain ⟨a, vs, k1, k2⟩ := N.at_ i _ _ e qs
  exact ⟨a, vs, by rw [qs, k1], k2⟩
theorem simS_appV {K : PySem.W.Frag} {te : TE} {fe : E} {i : Nat} (he : SimE W te fe) : SimS W (tDrop (tApp K (tVar i) te)) (sAppV i fe) := by
  intro B σ H ι ρ S out A e D hD
  obtain ⟨y, S1, e1, e⟩ := bnd_eq e
  split at e
  · rename_i xs d q
    split at e
    · rename_i c
      cases e
      obtain ⟨a, vs, es, k2, k3, k4, k5⟩ := own_list A.N q
      refine ⟨.ref a, es, ty_list k2, he.then A.Z A.N e1 fun v2 H2 ι2 Z2 X2 N2 R2 => ?_⟩
      have A2 := A.ext X2 Z2
      have h2 : H2 a = some (.lst vs) := X2.keep a _ k2 k5
      have r2 := k3.ext X2 A.Z
      have R2' : Rep ι2 S1.length H2 d v2 := R2
      refine ⟨a, vs, v2, rfl, rfl, h2, by rw [← k3.length, ← cap_eq]; exact c, hD _ _ ι2 ?_⟩
      refine A2.mut (s' := .l (xs ++ [d])) q rfl es rfl fun kt => ⟨a, _, rfl, upd_same, (Reps.mono (Nat.le_refl _) (fun _ _ => rfl) kt _ _ r2).append (.cons (Rep.mono (Nat.le_refl _) (fun _ _ => rfl) kt _ _ R2') .nil), k4, X2.apart k2 k5⟩
    · cases e
  · cases e
/-- x.append(y.pop(e)), both slots' own -/
def sAppPop (i j : Nat) (fe : E) : Sx := fun ρ S => bnd (fe ρ S) fun y S1 => match ρ[i]?, ρ[j]?, y with
  | some (.l xs), some (.l ys), .v (.int k) => if i ≠ j ∧ xs.length < cap ∧ -(9223372036854775808) ≤ k ∧ k < 9223372036854775808 then (ixN ys.length k).bind fun m => (ys[m]?).map fun d => .next ((ρ.set j (.l (ys.eraseIdx m))).set i (.l (xs ++ [d]))) S1 else none
  | _, _, _ => none
theorem simS_appPop {K : PySem.W.Frag} {te : TE} {fe : E} {i j : Nat} (he : SimE W te fe) : SimS W (tDrop (tApp K (tVar i) (tBM K "list" rPopAt (tVar j) (tCons te tNil)))) (sAppPop i j fe) := by
  intro B σ H ι ρ S out A e D hD
  obtain ⟨y, S1, e1, e⟩ := bnd_eq e
  split at e
  · rename_i xs ys k qi qj
    split at e
    · rename_i c
      obtain ⟨c1, c2, c3, c4⟩ := c
      cases qm : ixN ys.length k with
      | none => rw [qm] at e; cases e
      | some m =>
        rw [qm] at e
        simp only [Option.bind_some] at e
        cases qd : ys[m]? with
        | none => rw [qd] at e; cases e
        | some d =>
          rw [qd] at e
          cases e
          obtain ⟨a, vs, es, k2, k3, k4, k5⟩ := own_list A.N qi
          obtain ⟨b, ws, et, l2, l3, l4, l5⟩ := own_list A.N qj
          have hab : a ≠ b := fun z => A.N.sep i j _ _ a c1 qi qj rfl rfl es (by rw [z]; exact et)
          refine ⟨.ref a, es, ty_list k2, .ref b, et, ty_list l2, he.then A.Z A.N e1 fun v2 H2 ι2 Z2 X2 N2 R2 => ?_⟩
          cases R2
          have A2 := A.ext X2 Z2
          have h2 : H2 a = some (.lst vs) := X2.keep a _ k2 k5
          have g2 : H2 b = some (.lst ws) := X2.keep b _ l2 l5
          have r2 := k3.ext X2 A.Z
          have s2 := l3.ext X2 A.Z
          obtain ⟨v, e3, r3⟩ := s2.get qd
          have ix := ixN_seq qm
          refine ⟨b, ws, k, m, v, rfl, rfl, g2, by omega, by omega, by rw [← l3.length]; exact ix.1, e3, ?_⟩
          have A3 := A2.mut (s' := .l (ys.eraseIdx m)) (o' := .lst (ws.eraseIdx m)) qj rfl et rfl fun kt => ⟨b, _, rfl, upd_same, Reps.mono (Nat.le_refl _) (fun _ _ => rfl) kt _ _ (s2.eraseIdx m), l4, X2.apart l2 l5⟩
          have qi3 : (ρ.set j (.l (ys.eraseIdx m)))[i]? = some (.l xs) := by rw [List.getElem?_set_ne (Ne.symm c1)]; exact qi
          have h3 : (upd H2 b (.lst (ws.eraseIdx m))) a = some (.lst vs) := by rw [upd_ne hab]; exact h2
          refine ⟨a, vs, v, rfl, rfl, h3, by rw [← k3.length, ← cap_eq]; exact c2, hD _ _ ι2 ?_⟩
          have nt : ∀ us, (HO.lst ws) ≠ .tup us := fun us z => by cases z
          have r4 := r2.updAt (a := b) (o := .lst (ws.eraseIdx m)) g2 nt
          have r5 := r3.updAt (a := b) (o := .lst (ws.eraseIdx m)) g2 nt
          exact A3.mut (s' := .l (xs ++ [d])) qi3 rfl es rfl fun kt => ⟨a, _, rfl, upd_same, (Reps.mono (Nat.le_refl _) (fun _ _ => rfl) kt _ _ r4).append (.cons (Rep.mono (Nat.le_refl _) (fun _ _ => rfl) kt _ _ r5) .nil), k4, X2.apart k2 k5⟩
    · cases e
  · cases e
/-- y.pop(i) of a list of the store -/
def eLPop (fo fi : E) : E := fun ρ S => bnd (fo ρ S) fun x S1 => bnd (fi ρ S1) fun y S2 => match x, y with
  | .v (.ob h), .v (.int k) => (match S2[h]?, S1[h]? with
    | some (.lst xs), some (.lst _) => if -(9223372036854775808) ≤ k ∧ k < 9223372036854775808 then (ixN xs.length k).bind fun m => (xs[m]?).map fun d => (.v d, S2.set h (.lst (xs.eraseIdx m))) else none
    | _, _ => none)
  | _, _ => none
theorem sim_lpop {K : PySem.W.Frag} {to ti : TE} {fo fi : E} (ho : SimE W to fo) (hi : SimE W ti fi) : SimE W (tBM K "list" rPopAt to (tCons ti tNil)) (eLPop fo fi) := by
  intro σ H ι ρ S H0 z S' Z N e Q hQ
  obtain ⟨x, S1, e1, e⟩ := bnd_eq e
  obtain ⟨y, S2, e2, e⟩ := bnd_eq e
  split at e
  · rename_i h k _
    split at e
    · rename_i xs ys q qy
      split at e
      · rename_i c
        cases qm : ixN xs.length k with
        | none => rw [qm] at e; cases e
        | some m =>
          rw [qm] at e
          simp only [Option.bind_some] at e
          cases qd : xs[m]? with
          | none => rw [qd] at e; cases e
          | some d =>
            rw [qd] at e
            cases e
            refine ho.then Z N e1 fun v1 H1 ι1 Z1 X1 N1 R1 => ?_
            have R1' : Rep ι1 S1.length H1 (.ob h) v1 := R1
            cases R1' with
            | ob hh =>
              obtain ⟨ws, w1, _⟩ := Z1.at_ h _ qy
              refine ⟨ty_list w1, hi.then Z1 N1 e2 fun v2 H2 ι2 Z2 X2 N2 R2 => ?_⟩
              cases R2
              have hh2 : h < S2.length := Nat.lt_of_lt_of_le hh X2.le
              obtain ⟨us, u1, u2⟩ := Z2.at_ h _ q
              obtain ⟨v, e3, r3⟩ := u2.get qd
              have ix := ixN_seq qm
              rw [← X2.same h hh]
              refine ⟨ι2 h, us, k, m, v, rfl, rfl, u1, by omega, by omega, by rw [← u2.length]; exact ix.1, e3, ?_⟩
              have Z3 : RSt W ι2 (upd H2 (ι2 h) (.lst (us.eraseIdx m))) (S2.set h (.lst (xs.eraseIdx m))) := Z2.setO hh2 ⟨_, upd_same, (u2.setO Z2 hh2).eraseIdx m⟩
              have X3 : Ext ι2 S2.length H2 ι2 S2.length (upd H2 (ι2 h) (.lst (us.eraseIdx m))) := Ext.setO hh2
              have X13 := (X1.trans X2 Z1).trans X3 Z2
              refine hQ v _ ι2 Z3 (by rw [List.length_set]; exact X13) ?_
              rw [List.length_set]
              exact r3.setO Z2 hh2
      · cases e
    · cases e
  · cases e

/-! ### x[i] = e -/
/-- a slot's own list or dict -/
theorem PS.or {X : Cx} {st : Stmt} {a b : TS} (h : PS X st a) (h' : PS X st b) : PS X st (fun D σ H => a D σ H ∨ b D σ H) :=
  ⟨fun pins s σ H D I q => q.elim (h.run pins s σ H D I) (h'.run pins s σ H D I)⟩
/-- a dict of kind N gets a key -/
def rSetN : TSet := fun o i v H Q => ∃ (a b : Addr) (xs : List (List (List Int) × Addr)) (kss : List (List Int)), o = .ref a ∧ i = .ref b ∧ v = .bl true ∧ H a = some (.ext (dictN a xs)) ∧ (xs.map (·.1)).Nodup ∧ xs.length < sizeLine ∧
  (∀ q ∈ xs, NestAt H q.1 q.2) ∧ NestAt H kss b ∧ kss ∉ xs.map (·.1) ∧ Q (upd H a (.ext (dictN a (xs ++ [(kss, b)]))))
theorem set_N {X : Cx} (hu : X.A.units + 16 < cLine) : PSet X rSetN := by
  intro pins s σ H o i v ov iv u Q I ro ri rv h
  obtain ⟨a, b, xs, kss, rfl, rfl, rfl, e, nd, hz, hn, nb, hk, q⟩ := h
  cases ro
  cases ri
  cases rv
  refine wpAny_setItem_heap (knd := nestKind X.prog X.w) (hsz := by rw [List.length_map]; exact Nat.le_of_lt hz) (by show X.A.units + 1 + 8 < cLine; omega) (nest_is I nb) (dictN_of I e nd hn) fun h' dd hs => ?_
  have ek : atKey (xs.map fun x => (x.1, x.2, Value.bool true)) kss = none := by
    have z := atKey_N (xs := xs) (kss := kss)
    rw [decide_eq_false hk] at z
    exact Option.isNone_iff_eq_none.mp (by rw [← Option.not_isSome, z]; rfl)
  rw [storedH_new ek] at dd
  obtain ⟨w, es, ep, hw, h2, h3, h4, _, _⟩ := dd
  refine ⟨_, ?_, q⟩
  refine d_write I (by rw [e]; exact True.intro) hs ⟨w, hw⟩ ⟨⟨w, es, ep, hw, h2, h3, ?_⟩, ⟨w, hw⟩, fun h1 h2 q k => ?_⟩
  · rw [h4, List.map_append, List.map_append, List.map_map]
    rfl
  · obtain ⟨o, es, ep, q1, q2⟩ := q
    exact ⟨o, es, ep, k o q1, q2⟩
/-- the reading of a store: a list, a dict, a dict of kind N -/
def tSet (to ti te : TE) : TS := fun D σ H => tAsg te (L2.gSub to ti rSetL) D σ H ∨ (sDPut to ti te D σ H ∨ tAsg te (L2.gSub to ti rSetN) D σ H)
/-- what a dict becomes -/
theorem put_K {kvs : List (D × D)} {kv : List (Key × V)} {q : Key} {d : D} {v : V} (h : All2 (fun (p : D × D) (q : Key × V) => p.1 = keyD q.1 ∧ Rep ι n H p.2 q.2) kvs kv) (r : Rep ι n H d v) :
    All2 (fun (p : D × D) (q : Key × V) => p.1 = keyD q.1 ∧ Rep ι n H p.2 q.2) (dPut kvs (keyD q) d) (putK kv q v) := by
  have any : ∀ {ps : List (D × D)} {qs : List (Key × V)}, All2 (fun (p : D × D) (q : Key × V) => p.1 = keyD q.1 ∧ Rep ι n H p.2 q.2) ps qs → (ps.any fun p => decide (p.1 = keyD q)) = qs.any fun p => decide (p.1 = q) := by
    intro ps qs a
    induction a with
    | nil => rfl
    | @cons p z ps qs hp t ih =>
      rw [List.any_cons, List.any_cons, ih]
      congr 1
      by_cases e : z.1 = q
      · rw [decide_eq_true e, decide_eq_true (by rw [hp.1, e])]
      · rw [decide_eq_false e, decide_eq_false fun y => e (keyD_inj (hp.1.symm.trans y))]
  unfold dPut putK
  rw [any h]
  split
  · have go : ∀ {ps : List (D × D)} {qs : List (Key × V)}, All2 (fun (p : D × D) (q : Key × V) => p.1 = keyD q.1 ∧ Rep ι n H p.2 q.2) ps qs →
        All2 (fun (p : D × D) (q : Key × V) => p.1 = keyD q.1 ∧ Rep ι n H p.2 q.2) (ps.map fun p => if p.1 = keyD q then (p.1, d) else p) (qs.map fun kv => if kv.1 = q then (kv.1, v) else kv) := by
      intro ps qs a
      induction a with
      | nil => exact .nil
      | @cons p z ps qs hp t ih =>
        rw [List.map_cons, List.map_cons]
        refine .cons ?_ ih
        by_cases e : z.1 = q
        · rw [if_pos e, if_pos (by rw [hp.1, e])]
          exact ⟨hp.1, r⟩
        · rw [if_neg e, if_neg fun y => e (keyD_inj (hp.1.symm.trans y))]
          exact hp
    exact go h
  · exact h.append (.cons ⟨rfl, r⟩ .nil)
theorem put_T {kvs : List (D × D)} {kv : List (List Key × V)} {q : List Key} {d : D} {v : V} (h : All2 (fun (p : D × D) (q : List Key × V) => p.1 = .tup (q.1.map keyD) ∧ Rep ι n H p.2 q.2) kvs kv) (r : Rep ι n H d v) :
    All2 (fun (p : D × D) (q : List Key × V) => p.1 = .tup (q.1.map keyD) ∧ Rep ι n H p.2 q.2) (dPut kvs (.tup (q.map keyD)) d) (putK kv q v) := by
  have inj : ∀ {a b : List Key}, (D.tup (a.map keyD) = D.tup (b.map keyD)) → a = b := fun e => by
    injection e with e
    exact List.map_inj_right (fun _ _ => keyD_inj) |>.mp e
  have any : ∀ {ps : List (D × D)} {qs : List (List Key × V)}, All2 (fun (p : D × D) (q : List Key × V) => p.1 = .tup (q.1.map keyD) ∧ Rep ι n H p.2 q.2) ps qs → (ps.any fun p => decide (p.1 = .tup (q.map keyD))) = qs.any fun p => decide (p.1 = q) := by
    intro ps qs a
    induction a with
    | nil => rfl
    | @cons p z ps qs hp t ih =>
      rw [List.any_cons, List.any_cons, ih]
      congr 1
      by_cases e : z.1 = q
      · rw [decide_eq_true e, decide_eq_true (by rw [hp.1, e])]
      · rw [decide_eq_false e, decide_eq_false fun y => e (inj (hp.1.symm.trans y))]
  unfold dPut putK
  rw [any h]
  split
  · have go : ∀ {ps : List (D × D)} {qs : List (List Key × V)}, All2 (fun (p : D × D) (q : List Key × V) => p.1 = .tup (q.1.map keyD) ∧ Rep ι n H p.2 q.2) ps qs →
        All2 (fun (p : D × D) (q : List Key × V) => p.1 = .tup (q.1.map keyD) ∧ Rep ι n H p.2 q.2) (ps.map fun p => if p.1 = .tup (q.map keyD) then (p.1, d) else p) (qs.map fun kv => if kv.1 = q then (kv.1, v) else kv) := by
      intro ps qs a
      induction a with
      | nil => exact .nil
      | @cons p z ps qs hp t ih =>
        rw [List.map_cons, List.map_cons]
        refine .cons ?_ ih
        by_cases e : z.1 = q
        · rw [if_pos e, if_pos (by rw [hp.1, e])]
          exact ⟨hp.1, r⟩
        · rw [if_neg e, if_neg fun y => e (inj (hp.1.symm.trans y))]
          exact hp
    exact go h
  · exact h.append (.cons ⟨rfl, r⟩ .nil)
/-- a dict at a gets a value at a key: the heap's new object -/
theorem dput_ok {a : Addr} {k : DK} {kvs : List (D × D)} {y d : D} {vy v : V} (h : DicAt ι n H a k kvs) (hk : keyOk k y = true) (hN : k ≠ .N) (hz : kvs.length < cap) (ry : Rep ι n H y vy) (r : Rep ι n H d v) :
    ∃ o', DPut H a vy v (upd H a o') ∧ ((∀ b vs, H b = some (.tup vs) → (upd H a o') b = some (.tup vs)) → DicAt ι n (upd H a o') a k (dPut kvs y d)) := by
  cases k with
  | K =>
    obtain ⟨q, rfl⟩ := keyOk_K hk
    obtain ⟨kv, e, rr⟩ := h
    have ev := rep_key ry
    subst ev
    refine ⟨.dK (putK kv q v), DPut.k e (by rw [← rr.length, ← cap_eq]; exact hz), fun kt => ⟨_, upd_same, ?_⟩⟩
    exact (put_K rr r).mono fun p q z => ⟨z.1, Rep.mono (Nat.le_refl _) (fun _ _ => rfl) kt _ _ z.2⟩
  | T =>
    obtain ⟨q, rfl⟩ := keyOk_T hk
    obtain ⟨kv, e, rr⟩ := h
    cases ry with
    | @tup _ b vs e1 e2 =>
      rw [reps_keys e2] at e1
      refine ⟨.dT (putK kv q v), DPut.t e e1 (by rw [← rr.length, ← cap_eq]; exact hz), fun kt => ⟨_, upd_same, ?_⟩⟩
      exact (put_T rr r).mono fun p q z => ⟨z.1, Rep.mono (Nat.le_refl _) (fun _ _ => rfl) kt _ _ z.2⟩
  | N => exact absurd rfl hN
/-- .. of kind N, a new key -/
theorem dputN_ok {a : Addr} {kvs : List (D × D)} {y : D} {vy : V} {Q : Hp → Prop} (h : DicAt ι n H a .N kvs) (hk : keyOk .N y = true) (hz : kvs.length < cap) (hnew : dLook kvs y = none) (ry : Rep ι n H y vy)
    (hQ : ∀ o', ((∀ b vs, H b = some (.tup vs) → (upd H a o') b = some (.tup vs)) → DicAt ι n (upd H a o') a .N (kvs ++ [(y, .bl true)])) → Q (upd H a o')) : rSetN (.ref a) vy (.bl true) H Q := by
  obtain ⟨kss, rfl⟩ := keyOk_N hk
  obtain ⟨xs, e, nd, hl, hs, r⟩ := h
  obtain ⟨b, rfl, nb⟩ := rep_nest ry
  have all : ∀ {ps : List (D × D)} {zs : List (List (List Int) × Addr)}, All2 (fun (p : D × D) (q : List (List Int) × Addr) => p.1 = nestD q.1 ∧ p.2 = .bl true ∧ NestAt H q.1 q.2) ps zs →
      (∀ q ∈ zs, NestAt H q.1 q.2) ∧ (dLook ps (nestD kss) = none → kss ∉ zs.map (·.1)) := by
    intro ps zs q
    induction q with
    | nil => exact ⟨fun q hq => (by cases hq), fun _ hm => (by cases hm)⟩
    | @cons p z ps zs h t ih =>
      obtain ⟨h1, h2, h3⟩ := h
      refine ⟨fun q hq => ?_, fun hn hm => ?_⟩
      · rcases List.mem_cons.mp hq with e | hq
        · subst e; exact h3
        · exact ih.1 q hq
      · by_cases e : z.1 = kss
        · have e' : p.1 = nestD kss := by rw [h1, e]
          have : dLook (p :: ps) (nestD kss) = some p.2 := by simp [dLook, List.find?_cons, e']
          rw [this] at hn
          cases hn
        · have e' : ¬ p.1 = nestD kss := fun z' => e (nestD_inj (h1.symm.trans z'))
          have : dLook (p :: ps) (nestD kss) = dLook ps (nestD kss) := by simp [dLook, List.find?_cons, e']
          rw [this] at hn
          rw [List.map_cons] at hm
          rcases List.mem_cons.mp hm with q | q
          · exact e q.symm
          · exact ih.2 hn q
  obtain ⟨a1, a2⟩ := all r
  have hk2 := a2 hnew
  have hlen : xs.length < sizeLine := by rw [← r.length, ← cap_eq]; exact hz
  refine ⟨a, b, xs, kss, rfl, rfl, rfl, e, nd, hlen, a1, nb, hk2, hQ _ fun kt => ⟨xs ++ [(kss, b)], upd_same, ?_, by rw [List.length_append]; simp; omega, hs, ?_⟩⟩
  · rw [List.map_append]
    exact List.nodup_append.mpr ⟨nd, by simp, fun x hx y hy => by simp at hy; rw [hy]; exact fun z => hk2 (z ▸ hx)⟩
  · exact (r.mono fun p q z => ⟨z.1, z.2.1, z.2.2.mono kt⟩).append (.cons ⟨rfl, rfl, nb.mono kt⟩ .nil)
/-- a thing of the store -/
def putOb (o : Ob) (y d : D) : Option Ob := match o with
  | .lst xs => (match y with
    | .int k => (ixN xs.length k).map fun j => .lst (xs.set j d)
    | _ => none)
  | .dic k kvs => if keyOk k y = true ∧ kvs.length < cap then (if k = .N then (if d = .bl true ∧ dLook kvs y = none then some (.dic .N (kvs ++ [(y, d)])) else none) else some (.dic k (dPut kvs y d))) else none
  | _ => none
def sSet (fo fi fv : E) : Sx := fun ρ S => bnd (fv ρ S) fun z S1 => bnd (fo ρ S1) fun x S2 => bnd (fi ρ S2) fun y S3 => match x, y, z with
  | .v (.ob h), .v y, .v d => (match S3[h]? with
    | some o => (putOb o y d).map fun o' => .next ρ (S3.set h o')
    | none => none)
  | _, _, _ => none
theorem simS_set {to ti te : TE} {fo fi fv : E} (ho : SimE W to fo) (hi : SimE W ti fi) (hv : SimE W te fv) : SimS W (tSet to ti te) (sSet fo fi fv) := by
  intro B σ H ι ρ S out A e D hD
  obtain ⟨z, S1, e1, e⟩ := bnd_eq e
  obtain ⟨x, S2, e2, e⟩ := bnd_eq e
  obtain ⟨y, S3, e3, e⟩ := bnd_eq e
  split at e
  · rename_i h y d _ _
    cases q : S3[h]? with
    | none => rw [q] at e; cases e
    | some o =>
      rw [q] at e
      simp only at e
      cases q2 : putOb o y d with
      | none => rw [q2] at e; cases e
      | some o2 =>
        rw [q2] at e
        cases e
        -- all three values, then the store
        have go : ∀ (K : TSet), (∀ (H3 : Hp) (ι3 : Nat → Addr) (v2 v3 v1 : V), RSt W ι3 H3 S3 → h < S3.length → v2 = .ref (ι3 h) → Rep ι3 S3.length H3 y v3 → Rep ι3 S3.length H3 d v1 →
            (∀ o', RSt W ι3 (upd H3 (ι3 h) o') (S3.set h o2) → Ext ι3 S3.length H3 ι3 S3.length (upd H3 (ι3 h) o') → D.nx σ (upd H3 (ι3 h) o')) → K v2 v3 v1 H3 fun H4 => D.nx σ H4) → tAsg te (L2.gSub to ti K) D σ H := fun K hK => by
          refine hv.then A.Z A.N e1 fun v1 H1 ι1 Z1 X1 N1 R1 => ho.then Z1 N1 e2 fun v2 H2 ι2 Z2 X2 N2 R2 => hi.then Z2 N2 e3 fun v3 H3 ι3 Z3 X3 N3 R3 => ?_
          have R2' : Rep ι2 S2.length H2 (.ob h) v2 := R2
          cases R2' with
          | ob hh =>
            have A3 := ((A.ext X1 Z1).ext X2 Z2).ext X3 Z3
            have hh3 := Nat.lt_of_lt_of_le hh X3.le
            have R1' : Rep ι3 S3.length H3 d v1 := (R1.ext X2 Z1).ext X3 Z2
            refine hK H3 ι3 _ v3 v1 Z3 hh3 (by rw [X3.same h hh]) R3 R1' fun o' Z4 X4 => hD σ _ ι3 (A3.ext (by rw [List.length_set]; exact X4) Z4)
        unfold putOb at q2
        split at q2
        · rename_i xs
          split at q2
          · rename_i k
            cases qj : ixN xs.length k with
            | none => rw [qj] at q2; cases q2
            | some j =>
              rw [qj] at q2
              cases q2
              refine .inl (go _ fun H3 ι3 v2 v3 v1 Z3 hh e2 r3 r1 fin => ?_)
              subst e2
              cases r3
              obtain ⟨us, u1, u2⟩ := Z3.at_ h _ q
              exact ⟨_, us, k, j, rfl, rfl, u1, by rw [← u2.length]; exact qj, fin _ (Z3.setO hh ⟨_, upd_same, (u2.setO Z3 hh).set j (r1.setO Z3 hh)⟩) (Ext.setO hh)⟩
          · cases q2
        · rename_i k kvs
          split at q2
          · rename_i c
            split at q2
            · rename_i cN
              subst cN
              split at q2
              · rename_i cd
                cases q2
                obtain ⟨rfl, cd2⟩ := cd
                refine .inr (.inr (go _ fun H3 ι3 v2 v3 v1 Z3 hh e2 r3 r1 fin => ?_))
                subst e2
                cases r1
                exact dputN_ok (Z3.at_ h _ q) c.1 c.2 cd2 r3 fun o' ok => fin o' (Z3.setO hh (ok (Z3.keepT hh))) (Ext.setO hh)
              · cases q2
            · rename_i cN
              cases q2
              refine .inr (.inl ?_)
              refine hv.then A.Z A.N e1 fun v1 H1 ι1 Z1 X1 N1 R1 => ho.then Z1 N1 e2 fun v2 H2 ι2 Z2 X2 N2 R2 => hi.then Z2 N2 e3 fun v3 H3 ι3 Z3 X3 N3 R3 => ?_
              have R2' : Rep ι2 S2.length H2 (.ob h) v2 := R2
              cases R2' with
              | ob hh =>
                have A3 := ((A.ext X1 Z1).ext X2 Z2).ext X3 Z3
                have hh3 := Nat.lt_of_lt_of_le hh X3.le
                have R1' : Rep ι3 S3.length H3 d v1 := (R1.ext X2 Z1).ext X3 Z2
                obtain ⟨o', p1, p2⟩ := dput_ok (Z3.at_ h _ q) c.1 cN c.2 R3 R1'
                refine ⟨ι2 h, _, rfl, by rw [← X3.same h hh]; exact p1, ?_⟩
                have Z4 := Z3.setO (ob := .dic k (dPut kvs y d)) hh3 (p2 (Z3.keepT hh3))
                have X4 : Ext ι3 S3.length H3 ι3 S3.length (upd H3 (ι3 h) o') := Ext.setO hh3
                exact hD σ _ ι3 (A3.ext (by rw [List.length_set]; exact X4) Z4)
          · cases q2
        · cases q2
  · cases e
/-- .. a slot's own list or dict -/
def putSl (s : Sl) (y d : D) : Option Sl := match s with
  | .l xs => (match y with
    | .int k => (ixN xs.length k).map fun j => .l (xs.set j d)
    | _ => none)
  | .d k kvs => if keyOk k y = true ∧ kvs.length < cap ∧ k ≠ .N then some (.d k (dPut kvs y d)) else none
  | _ => none
def sSetV (i : Nat) (fi fv : E) : Sx := fun ρ S => bnd (fv ρ S) fun z S1 => bnd (fi ρ S1) fun y S2 => match ρ[i]?, y, z with
  | some s, .v y, .v d => (putSl s y d).map fun s' => .next (ρ.set i s') S2
  | _, _, _ => none
theorem own_dict {i : Nat} {k : DK} {kvs : List (D × D)} (N : REnv W H0 ι n H ρ σ) (e : ρ[i]? = some (.d k kvs)) : ∃ a, σ[i]? = some (some (.ref a)) ∧ DicAt ι n H a k kvs ∧ H0 a = none ∧ ∀ h, h < n → a ≠ ι h := by
  have hi : i < σ.length := by
    have := (List.getElem?_eq_some_iff.mp e).1
    rw [N.len] at this
    exact this
  have qs : σ[i]? = some σ[i] := by simp [hi]
  obtain ⟨a, k1, k2⟩ := N.at_ i _ _ e qs
  exact ⟨a, by rw [qs, k1], k2⟩
theorem simS_setV {ti te : TE} {fi fv : E} {i : Nat} (hi : SimE W ti fi) (hv : SimE W te fv) : SimS W (tSet (tVar i) ti te) (sSetV i fi fv) := by
  intro B σ H ι ρ S out A e D hD
  obtain ⟨z, S1, e1, e⟩ := bnd_eq e
  obtain ⟨y, S2, e2, e⟩ := bnd_eq e
  split at e
  · rename_i s y d q _
    cases q2 : putSl s y d with
    | none => rw [q2] at e; cases e
    | some s' =>
      rw [q2] at e
      cases e
      unfold putSl at q2
      split at q2
      · rename_i xs
        split at q2
        · rename_i k
          cases qj : ixN xs.length k with
          | none => rw [qj] at q2; cases q2
          | some j =>
            rw [qj] at q2
            cases q2
            obtain ⟨a, vs, es, k2, k3, k4, k5⟩ := own_list A.N q
            refine .inl (hv.then A.Z A.N e1 fun v1 H1 ι1 Z1 X1 N1 R1 => ⟨.ref a, es, hi.then Z1 N1 e2 fun v3 H3 ι3 Z3 X3 N3 R3 => ?_⟩)
            cases R3
            have X13 := X1.trans X3 Z1
            have A3 := (A.ext X1 Z1).ext X3 Z3
            have h3 : H3 a = some (.lst vs) := X13.keep a _ k2 k5
            have r3 := k3.ext X13 A.Z
            have R1' : Rep ι3 S2.length H3 d v1 := R1.ext X3 Z1
            refine ⟨a, vs, k, j, rfl, rfl, h3, by rw [← k3.length]; exact qj, hD σ _ ι3 ?_⟩
            exact A3.mut (s' := .l (xs.set j d)) q rfl es rfl fun kt => ⟨a, _, rfl, upd_same, (Reps.mono (Nat.le_refl _) (fun _ _ => rfl) kt _ _ r3).set j (Rep.mono (Nat.le_refl _) (fun _ _ => rfl) kt _ _ R1'), k4, X13.apart k2 k5⟩
        · cases q2
      · rename_i k kvs
        split at q2
        · rename_i c
          cases q2
          obtain ⟨a, es, k2, k4, k5⟩ := own_dict A.N q
          refine .inr (.inl (hv.then A.Z A.N e1 fun v1 H1 ι1 Z1 X1 N1 R1 => ⟨.ref a, es, hi.then Z1 N1 e2 fun v3 H3 ι3 Z3 X3 N3 R3 => ?_⟩))
          have X13 := X1.trans X3 Z1
          have A3 := (A.ext X1 Z1).ext X3 Z3
          obtain ⟨o, ko⟩ := k2.there
          have d3 : DicAt ι3 S2.length H3 a k kvs := k2.mono X13.le X13.same (X13.tup A.Z) fun u qu => X13.keep a u qu k5
          have R1' : Rep ι3 S2.length H3 d v1 := R1.ext X3 Z1
          obtain ⟨o', p1, p2⟩ := dput_ok d3 c.1 c.2.2 c.2.1 R3 R1'
          refine ⟨a, _, rfl, p1, hD σ _ ι3 ?_⟩
          exact A3.mut (s' := .d k (dPut kvs y d)) q rfl es rfl fun kt => ⟨a, rfl, p2 kt, k4, X13.apart ko k5⟩
        · cases q2
      · cases q2
  · cases e
end
end Ev

set_option Elab.async false
set_option linter.all false
set_option maxRecDepth 100000
set_option maxHeartbeats 4000000
/-! Chains of comparisons, ranges as values, displays that are asked. -/
namespace Ev
open PySem L2

section
variable {W : Wd} {B : Bas} {ι ι' ι1 ι0 : Nat → Addr} {n n' : Nat} {H H' H0 H1 : Hp} {S S' S1 S0 : Store} {ρ : Env} {σ : St}

/-! ### a < b < c -/
def eChain (g g' : Store → R → R → Option R) (fa fb fc : E) : E := fun ρ S => bnd (fa ρ S) fun x S1 => bnd (fb ρ S1) fun y S2 => (g S2 x y).bind fun z => match z.bool with
  | some true => bnd (fc ρ S2) fun w S3 => (g' S3 y w).map fun z => (z, S3)
  | some false => some (.v (.bl false), S2)
  | none => none
theorem sim_chain {ta tb tc : TE} {fa fb fc : E} {r r' : R2} {g g' : Store → R → R → Option R} (ha : SimE W ta fa) (hb : SimE W tb fb) (hc : SimE W tc fc) (ho : SimOp W r g) (ho' : SimOp W r' g') :
    SimE W (tChain r r' ta tb tc) (eChain g g' fa fb fc) := by
  intro σ H ι ρ S H0 z S' Z N e Q hQ
  obtain ⟨x, S1, e1, ea⟩ := bnd_eq e
  obtain ⟨y, S2, e2, eb⟩ := bnd_eq ea
  clear e ea
  cases q : g S2 x y with
  | none => rw [q] at eb; cases eb
  | some z1 =>
    rw [q] at eb
    simp only [Option.bind_some] at eb
    refine ha.then Z N e1 fun v1 H1 ι1 Z1 X1 N1 R1 => hb.then Z1 N1 e2 fun v2 H2 ι2 Z2 X2 N2 R2 => ?_
    refine ho H2 ι2 S2 H H1 x y z1 v1 v2 Z2 (R1.ext X2 Z1) R2 q _ fun v3 H3 Z3 X3 R3 => ?_
    cases qb : z1.bool with
    | none => rw [qb] at eb; cases eb
    | some k =>
      rw [qb] at eb
      have ek := bool_eq qb
      subst ek
      cases R3
      refine ⟨k, rfl, ?_⟩
      cases k with
      | false =>
        simp only at eb
        cases eb
        simp only [Bool.false_eq_true, if_false]
        exact hQ _ H3 ι2 Z3 ((X1.trans X2 Z1).trans X3 Z2) (.bl false)
      | true =>
        simp only [if_true]
        simp only at eb
        obtain ⟨w, S3, e3, ec⟩ := bnd_eq eb
        cases q2 : g' S3 y w with
        | none => rw [q2] at ec; cases ec
        | some z2 =>
          rw [q2] at ec
          cases ec
          refine hc.then Z3 ((N2.ext X3 Z2)) e3 fun v4 H4 ι4 Z4 X4 N4 R4 => ?_
          have R2' : RR W H1 ι4 S'.length H4 y v2 := (R2.ext X3 Z2).ext X4 Z3
          refine ho' H4 ι4 S' H1 H3 y w z v2 v4 Z4 R2' R4 q2 _ fun v5 H5 Z5 X5 R5 => ?_
          have XX := ((X1.trans X2 Z1).trans X3 Z2).trans X4 Z3
          exact hQ v5 H5 ι4 Z5 (XX.trans X5 Z4) (R5.back2 XX Z4)

/-! ### x not in range(n) -/
theorem cr_range1v {X : Cx} : CallR X (.type "range") (fun vs H Q => ∃ j, vs = [V.int j] ∧ ∀ p, H p = none → Q (.ref p) (upd H p (.rng 0 j))) := by
  intro pins s σ H vs us Q I r h
  obtain ⟨j, rfl, q⟩ := h
  cases r with
  | cons r1 r2 =>
    cases r2
    obtain ⟨u, rfl⟩ := r1
    refine call_range_1 ⟨.ref s.heap.objs.size, upd H s.heap.objs.size (.rng 0 j), I.laid (t' := s.toks + 1 + 1) (fun b o e => Heap.get?_push_of_some _ e) (Nat.le_refl _) ?_, rfl, q _ (I.hok.fresh (Nat.le_refl _))⟩
    exact ⟨s.toks, u, s.toks + 1, Heap.get?_push_size _ rfl⟩
def rNotRg : R2 := fun x y H Q => ∃ i a lo hi, x = V.int i ∧ y = V.ref a ∧ H a = some (.rng lo hi) ∧ Q (.bl (!decide (lo ≤ i ∧ i < hi))) H
theorem op_notIn_rng {X : Cx} : OpR X (compareOp .NotIn) rNotRg := by
  intro pins s σ H x y v u Q I rx ry h
  obtain ⟨i, a, lo, hi, rfl, rfl, ha, q⟩ := h
  obtain ⟨k, rfl⟩ := rx
  obtain rfl : u = Value.ref a := ry
  obtain ⟨t1, t2, t3, ho⟩ := I.hok a _ ha
  show wpAny _ _ (do return Value.bool (!(← contains (Value.ref a) (Value.int i k)))) _ _ s
  have pl := place1 lo hi i
  refine wpAny_bind (wpAny_contains_slot (T := "range") ⟨_, ho, rfl⟩ F.slot_range_contains (call_meets F.slot_range_contains ⟨_, ho, rfl⟩ F.entry_range_contains (F.args_range_contains_2 _ _) (q_contains a lo hi i t1 t2 t3 k) ?_))
  refine ⟨ho, wpAny_truthy_bool (wpAny_pure ⟨.bl _, H, I, rfl, ?_⟩)⟩
  rw [pl]
  exact q
def eNotRg (fa fb : E) : E := fun ρ S => bnd (fa ρ S) fun x S1 => bnd (fb ρ S1) fun y S2 => match x.int, y.int with
  | some i, some j => some (.v (.bl (!decide (0 ≤ i ∧ i < j))), S2)
  | _, _ => none
def tRgV (t : TE) : TE := tCB (fun vs H Q => ∃ j, vs = [V.int j] ∧ ∀ p, H p = none → Q (.ref p) (upd H p (.rng 0 j))) (tCons t tNil)
theorem sim_notRg {ta tb : TE} {fa fb : E} (ha : SimE W ta fa) (hb : SimE W tb fb) : SimE W (tOp rNotRg ta (tRgV tb)) (eNotRg fa fb) := by
  intro σ H ι ρ S H0 z S' Z N e Q hQ
  obtain ⟨x, S1, e1, ea⟩ := bnd_eq e
  obtain ⟨y, S2, e2, eb⟩ := bnd_eq ea
  clear e ea
  cases q1 : x.int with
  | none => rw [q1] at eb; cases eb
  | some i =>
    cases q2 : y.int with
    | none => rw [q1, q2] at eb; cases eb
    | some j =>
      rw [q1, q2] at eb
      cases eb
      have := int_eq q1
      subst this
      have := int_eq q2
      subst this
      refine ha.then Z N e1 fun v1 H1 ι1 Z1 X1 N1 R1 => hb.then Z1 N1 e2 fun v2 H2 ι2 Z2 X2 N2 R2 => ?_
      cases R1
      cases R2
      refine ⟨j, rfl, fun p hp => ⟨i, p, 0, j, rfl, rfl, upd_same, ?_⟩⟩
      exact hQ _ _ ι2 (Z2.upd hp) ((X1.trans X2 Z1).trans (Ext.upd hp) Z2) (.bl _)

/-! ### {k: e, ..}.get(x, y): keys are written numbers -/
def R.isVL : R → Bool
  | .v _ => true
  | .l _ => true
  | _ => false
theorem RR.updVL {a : Addr} {o : HO} {Hb : Hp} {r : R} {v : V} {kvs : List (Key × V)} (q : RR W Hb ι n H r v) (hr : r.isVL = true) (hu : H a = some (.dK kvs)) : RR W Hb ι n (upd H a o) r v := by
  have nt : ∀ us, (HO.dK kvs) ≠ .tup us := fun us q => by cases q
  cases r with
  | v d => exact Rep.updAt (show Rep ι n H d v from q) hu nt
  | l xs =>
    obtain ⟨b, vs, rfl, h1, h2, h3, h4⟩ := q
    have hb : b ≠ a := fun z => by
      rw [z, hu] at h1
      cases h1
    exact ⟨b, vs, rfl, by rw [upd_ne hb]; exact h1, h2.updAt hu nt, h3, h4⟩
  | _ => cases hr
theorem all2_VL {a : Addr} {o : HO} {Hb : Hp} {kvs : List (Key × V)} (hu : H a = some (.dK kvs)) : ∀ {rs : List R} {vs : List V}, All2 (RR W Hb ι n H) rs vs → rs.all R.isVL = true → All2 (RR W Hb ι n (upd H a o)) rs vs
  | _, _, .nil, _ => .nil
  | _, _, .cons h t, e => by
    rw [List.all_cons, Bool.and_eq_true] at e
    exact .cons (h.updVL e.1 hu) (all2_VL hu t e.2)
def eDispGet (ks : List Int) (fs : List E) (fk fd : E) : E := fun ρ S => bnd (eArgs fs ρ S) fun rs S1 => bnd (fk ρ S1) fun k S2 => bnd (fd ρ S2) fun d S3 => k.int.bind fun i =>
  if (ks.Nodup ∧ ks.length ≤ 15) ∧ rs.all R.isVL = true then some (((ks.zip rs).lookup i).getD d, S3) else none
def tPrs (ks : List Int) (ts : List TE) : List (TE × TE) := (ks.zip ts).map fun p => (tC (.int p.1), p.2)
inductive SimEs (W : Wd) : List TE → List E → Prop
  | nil : SimEs W [] []
  | cons {t : TE} {f : E} {ts : List TE} {fs : List E} : SimE W t f → SimEs W ts fs → SimEs W (t :: ts) (f :: fs)
theorem sim_pairs {Hb : Hp} : ∀ {ks : List Int} {ts : List TE} {fs : List E} {ι : Nat → Addr} {H : Hp} {S : Store} {rs : List R}, SimEs W ts fs → ks.length = ts.length → RSt W ι H S → REnv W H0 ι S.length H ρ σ → eArgs fs ρ S = some (rs, S') → (∀ a, H a = none → Hb a = none) →
    ∀ Q : List (V × V) → Hp → Prop, (∀ vs H' ι', RSt W ι' H' S' → Ext ι S.length H ι' S'.length H' → All2 (RR W Hb ι' S'.length H') rs vs → Q ((ks.zip vs).map fun p => (V.int p.1, p.2)) H') → tPairs (tPrs ks ts) σ H Q
  | [], _, _, ι, H, S, rs, .nil, _, Z, N, e, _, Q, hQ => by
    cases e
    exact hQ [] H ι Z .refl .nil
  | k :: ks, _, _, ι, H, S, rs, .cons (ts := ts) (fs := fs) (t := t) (f := f) h hs, hl, Z, N, e, hb, Q, hQ => by
    obtain ⟨x, S1, e1, ea⟩ := bnd_eq e
    obtain ⟨xs, S2, e2, eb⟩ := bnd_eq ea
    cases eb
    show t σ H _
    refine h.then Z N e1 fun v1 H1 ι1 Z1 X1 N1 R1 => ?_
    refine sim_pairs (ks := ks) (Hb := Hb) hs (by simpa using hl) Z1 N1 e2 (fun a q => hb a (X1.dom Z1 q)) _ fun vs H2 ι2 Z2 X2 R2 => ?_
    refine hQ (v1 :: vs) H2 ι2 Z2 (X1.trans X2 Z1) (.cons ?_ R2)
    exact (R1.ext X2 Z1).older (fun a q => hb a q) _ _
theorem lookup_valV : ∀ {ks : List Int} {vs : List V} {i : Int}, valV ((ks.zip vs).map fun p => ((Sum.inl p.1 : Key), p.2)) (Sum.inl i) = (ks.zip vs).lookup i
  | [], _, _ => rfl
  | _ :: _, [], _ => rfl
  | k :: ks, v :: vs, i => by
    show valV ((Sum.inl k, v) :: ((ks.zip vs).map fun p => ((Sum.inl p.1 : Key), p.2))) (Sum.inl i) = List.lookup i ((k, v) :: ks.zip vs)
    rw [List.lookup_cons]
    by_cases h : k = i
    · subst h
      rw [valV_pos rfl]
      simp
    · have h1 : ¬ (Sum.inl k : Key) = Sum.inl i := fun z => h (Sum.inl.inj z)
      rw [valV_neg h1, lookup_valV]
      have h2 : (i == k) = false := by
        refine beq_eq_false_iff_ne.mpr fun z => h z.symm
      rw [h2]
theorem merge_new : ∀ {more : List (Key × V)} {kvs : List (Key × V)}, (kvs ++ more).map (·.1) |>.Nodup → mergeK kvs more = kvs ++ more
  | [], kvs, _ => by simp [mergeK]
  | (k, v) :: more, kvs, h => by
    have hk : (kvs.any fun kv => decide (kv.1 = k)) = false := by
      rw [List.any_eq_false]
      intro x hx
      simp only [decide_eq_true_eq]
      intro e
      rw [List.map_append, List.nodup_append] at h
      exact h.2.2 x.1 (List.mem_map.mpr ⟨x, hx, rfl⟩) k (by simp) e
    have e : putK kvs k v = kvs ++ [(k, v)] := by
      unfold putK
      rw [hk]
      simp
    show mergeK (putK kvs k v) more = _
    rw [e, merge_new (by rw [List.append_assoc]; exact h), List.append_assoc]
    rfl
theorem all2_lookup {F : R → V → Prop} : ∀ {ks : List Int} {rs : List R} {vs : List V} {i : Int}, All2 F rs vs → match (ks.zip rs).lookup i, (ks.zip vs).lookup i with
    | some r, some v => F r v
    | none, none => True
    | _, _ => False
  | [], _, _, _, _ => by simp
  | _ :: _, _, _, _, .nil => by simp
  | k :: ks, _, _, i, .cons h t => by
    rw [List.zip_cons_cons, List.zip_cons_cons, List.lookup_cons, List.lookup_cons]
    by_cases e : (i == k) = true
    · rw [e]; exact h
    · have e' : (i == k) = false := by simpa using e
      rw [e']
      exact all2_lookup t
theorem sim_dispGet {ks : List Int} {ts : List TE} {fs : List E} {tk td : TE} {fk fd : E} (hs : SimEs W ts fs) (hl : ks.length = ts.length) (hk : SimE W tk fk) (hd : SimE W td fd) : SimE W (tDGet2 (tDisp (tPrs ks ts)) tk td) (eDispGet ks fs fk fd) := by
  intro σ H ι ρ S H0 z S' Z N e Q hQ
  obtain ⟨rs, S1, e1, ea⟩ := bnd_eq e
  obtain ⟨k, S2, e2, eb⟩ := bnd_eq ea
  obtain ⟨d, S3, e3, ec⟩ := bnd_eq eb
  clear e ea eb
  cases qi : k.int with
  | none => rw [qi] at ec; cases ec
  | some i =>
    rw [qi] at ec
    simp only [Option.bind_some] at ec
    split at ec
    · rename_i c
      cases ec
      have := int_eq qi
      subst this
      intro p hp
      have Z0 := Z.upd (o := .dK []) hp
      have X0 : Ext ι S.length H ι S.length (upd H p (.dK [])) := Ext.upd hp
      have nb : ∀ h, h < S.length → p ≠ ι h := Z.ne_new hp
      refine sim_pairs (Hb := H) hs hl Z0 (N.ext X0 Z) e1 (fun a q => X0.dom Z0 q) _ fun vs H1 ι1 Z1 X1 R1 => ?_
      have h1 : H1 p = some (.dK []) := X1.keep p _ upd_same nb
      have nb1 := X1.apart (H := upd H p (.dK [])) upd_same nb
      have nt : ∀ us, (HO.dK []) ≠ .tup us := fun us q => by cases q
      have X01 := X0.trans X1 Z0
      refine ⟨h1, (ks.zip vs).map (fun p => ((Sum.inl p.1 : Key), p.2)), ?_, ?_, p, rfl, .inl ⟨_, .of upd_same⟩, ?_⟩
      · rw [List.map_map]; rfl
      · rw [List.length_map, List.length_zip]; exact Nat.le_trans (Nat.min_le_left _ _) c.1.2
      have Z2 := Z1.updAt (o := .dK (mergeK [] ((ks.zip vs).map fun p => ((Sum.inl p.1 : Key), p.2)))) nb1 h1 nt
      have X02 : Ext ι S.length H ι1 S1.length (upd H1 p (.dK (mergeK [] ((ks.zip vs).map fun p => ((Sum.inl p.1 : Key), p.2))))) := X01.updNew hp
      have N2 := N.ext X02 Z
      refine hk.then Z2 N2 e2 fun v2 H2 ι2 Z3 X3 N3 R3 => hd.then Z3 N3 e3 fun v3 H3 ι3 Z4 X4 N4 R4 => ?_
      cases R3
      have X34 := X3.trans X4 Z3
      have h3 : H3 p = some (.dK (mergeK [] ((ks.zip vs).map fun p => ((Sum.inl p.1 : Key), p.2)))) := X34.keep p _ upd_same nb1
      have X04 := X02.trans X34 Z2
      refine ⟨_, .inl ⟨_, Sum.inl i, .of h3, rfl, rfl⟩, ?_⟩
      have nd : (([] : List (Key × V)) ++ (ks.zip vs).map (fun p => ((Sum.inl p.1 : Key), p.2))).map (·.1) |>.Nodup := by
        rw [List.nil_append, List.map_map]
        have e5 : ((ks.zip vs).map (((fun x => x.1) : Key × V → Key) ∘ fun p => ((Sum.inl p.1 : Key), p.2))) = ((ks.zip vs).map (·.1)).map (Sum.inl : Int → Key) := by
          rw [List.map_map]; rfl
        rw [e5]
        have sub : List.Sublist ((ks.zip vs).map (·.1)) ks := by
          have : ∀ (as : List Int) (bs : List V), List.Sublist ((as.zip bs).map (·.1)) as := by
            intro as
            induction as with
            | nil => intro bs; simp
            | cons a as ih =>
              intro bs
              cases bs with
              | nil => simp
              | cons b bs => simpa using ih bs
          exact this ks vs
        have h0 : ((ks.zip vs).map (·.1)).Nodup := sub.nodup c.1.1
        exact List.pairwise_map.mpr (List.Pairwise.imp (fun {a b} (h : a ≠ b) q => h (Sum.inl.inj q)) h0)
      rw [merge_new nd, List.nil_append, lookup_valV]
      have R1u : All2 (RR W H ι1 S1.length (upd H1 p (.dK (mergeK [] ((ks.zip vs).map fun p => ((Sum.inl p.1 : Key), p.2)))))) rs vs := all2_VL h1 R1 c.2
      have lk := all2_lookup (ks := ks) (i := i) R1u
      cases qa : (ks.zip rs).lookup i with
      | none =>
        cases qb : (ks.zip vs).lookup i with
        | none => rw [qa] at hQ; exact hQ v3 H3 ι3 Z4 X04 (R4.older (fun a q => (X02.trans X3 Z2).dom Z3 q) _ _)
        | some v => rw [qa, qb] at lk; exact lk.elim
      | some r =>
        cases qb : (ks.zip vs).lookup i with
        | none => rw [qa, qb] at lk; exact lk.elim
        | some v =>
          rw [qa, qb] at lk
          rw [qa] at hQ
          exact hQ v H3 ι3 Z4 X04 (lk.ext X34 Z2)
    · cases ec
end
end Ev

set_option Elab.async false
set_option linter.all false
set_option maxRecDepth 100000
set_option maxHeartbeats 4000000
/-! Defs. -/
namespace Ev
open PySem PySem.Spec PyProof.Rows L2

def slotIn : R → Option Sl
  | .v d => some (.v d)
  | .l xs => some (.b xs)
  | .b xs => some (.b xs)
  | .f xs => some (.f xs)
  | _ => none
def slotsIn : List R → Option (List Sl)
  | [] => some []
  | r :: rs => match slotIn r, slotsIn rs with
    | some s, some ss => some (s :: ss)
    | _, _ => none
def endOf : Option Out → Option (R × Store)
  | some (.ret r S) => some (r, S)
  | some (.next _ S) => some (.v .non, S)
  | _ => none
/-- a def's run: n slots -/
def runOf (n : Nat) (ev : Sx) : Ru := fun rs S => (slotsIn rs).bind fun ss => if ss.length ≤ n then endOf (ev (ss ++ List.replicate (n - ss.length) .no) S) else none

section
variable {W : Wd} {ι ι' : Nat → Addr} {n : Nat} {H H' H0 Ha : Hp} {S S' : Store}
theorem slotIn_ok {r : R} {s : Sl} {v : V} (e : slotIn r = some s) (h : RR W Ha ι n H r v) : SlOk W H0 ι n H (some v) s ∧ s.own = false := by
  cases r with
  | v d => cases e; exact ⟨⟨v, rfl, h⟩, rfl⟩
  | l xs => cases e; obtain ⟨a, vs, rfl, h1, h2, _, h4⟩ := h; exact ⟨⟨a, vs, rfl, h1, h2, h4⟩, rfl⟩
  | b xs => cases e; obtain ⟨a, vs, rfl, h1, h2, h4⟩ := h; exact ⟨⟨a, vs, rfl, h1, h2, h4⟩, rfl⟩
  | f xs => cases e; obtain ⟨a, vs, rfl, h1, h2⟩ := h; exact ⟨⟨a, vs, rfl, h1, h2⟩, rfl⟩
  | _ => cases e
theorem slotsIn_ok : ∀ {rs : List R} {ss : List Sl} {vs : List V}, slotsIn rs = some ss → All2 (RR W Ha ι n H) rs vs → All2 (fun s v => SlOk W H0 ι n H (some v) s ∧ s.own = false) ss vs
  | [], ss, vs, e, h => by cases e; cases h; exact .nil
  | r :: rs, ss, vs, e, h => by
    cases h with
    | cons h1 h2 =>
      unfold slotsIn at e
      split at e
      · rename_i s ss' q1 q2
        cases e
        exact .cons (slotIn_ok q1 h1) (slotsIn_ok q2 h2)
      · cases e
theorem entry_env {ss : List Sl} {vs : List V} {m : Nat} (h : All2 (fun s v => SlOk W H0 ι n H (some v) s ∧ s.own = false) ss vs) : REnv W H0 ι n H (ss ++ List.replicate (m - ss.length) .no) (vs.map some ++ List.replicate (m - vs.length) none) := by
  have hl := h.length
  have key : ∀ (i : Nat) s, (ss ++ List.replicate (m - ss.length) Sl.no)[i]? = some s → s.own = false ∧ ∀ o, (vs.map some ++ List.replicate (m - vs.length) none)[i]? = some o → SlOk W H0 ι n H o s := by
    intro i s e
    by_cases hi : i < ss.length
    · rw [List.getElem?_append_left hi] at e
      obtain ⟨v, e1, e2⟩ := h.get e
      refine ⟨e2.2, fun o eo => ?_⟩
      rw [List.getElem?_append_left (by rw [List.length_map, ← hl]; exact hi), List.getElem?_map, e1] at eo
      cases eo
      exact e2.1
    · rw [List.getElem?_append_right (by omega)] at e
      have e' := List.mem_of_getElem? e
      have e2 := (List.mem_replicate.mp e').2
      subst e2
      exact ⟨rfl, fun _ _ => trivial⟩
  refine ⟨by simp [hl], fun i s o e1 e2 => (key i s e1).2 o e2, fun i j s t a _ e1 _ ho => ?_⟩
  rw [(key i s e1).1] at ho
  cases ho
end

abbrev FnP (K : PySem.W.Frag) (x qual : Str) (st : Stmt) (dvs : List V) (f : Addr) (fd : FuncData) : Prop := FunD K x qual (defArgs st) (defBody st) (defScope st) dvs [] f fd

section
variable {P : Program} {w : World} {K : PySem.W.Frag} {mg : Str → Option Value} {base : Heap}
/-- a def keeps the promise of its run -/
theorem fn_ok {W : Wd} {x qual : Str} {st : Stmt} {dvs : List V} {f : Addr} {fd : FuncData} {N ps : List Str} {k : Nat} {ev : Sx} (F : FnP K x qual st dvs f fd) (sc : FnScope N ps (defScope st))
    (hb : ∀ (cdv : Value) (A : Around) (outer : List PySem.Env) (s : Shared) (H : Hp) (E : XK), Room k (A.deeper (envOfC qual (defScope st) s.heap.objs.size f cdv)) →
      ∃ t, PSs (cxOf CX0 P w K mg base N qual (defScope st) f cdv A outer s H E).nox (defBody st) t ∧ SimS W t ev) :
    FnOk P w K mg base CX0 (k + 1) f fd ps (spOf W ps.length (runOf N.length ev)) := by
  refine F.ok sc (fun vs H Q E h => h.1) fun cdv A outer s H vs Q E hr h => ?_
  obtain ⟨t, h1, h2⟩ := hb cdv A outer s H E hr
  refine ⟨t, h1.nox, ?_⟩
  obtain ⟨hl, ι, S, Ha, rs, r, S', Z, hrs, hrun, hQ⟩ := h
  unfold runOf at hrun
  cases q : slotsIn rs with
  | none => rw [q] at hrun; cases hrun
  | some ss =>
    rw [q] at hrun
    simp only [Option.bind_some] at hrun
    split at hrun
    · rename_i hn
      have hs := slotsIn_ok (H0 := H) q hrs
      have N0 := entry_env (m := N.length) hs
      let B : Bas := ⟨ι, S, H, ι, 0, fun _ => none⟩
      have A0 : At W B ι (ss ++ List.replicate (N.length - ss.length) .no) S (start N vs) H :=
        ⟨Z, .refl, N0, Nat.zero_le _, fun h hh => absurd hh (Nat.not_lt_zero _), (fun a o q => by cases q), (fun a o i s q => by cases q)⟩
      cases qo : ev (ss ++ List.replicate (N.length - ss.length) .no) S with
      | none => rw [qo] at hrun; cases hrun
      | some out =>
        rw [qo] at hrun
        refine h2 B (start N vs) H ι _ S out A0 qo _ ?_
        cases out with
        | next ρ' S2 => cases hrun; exact fun σ' H' ι' A' => hQ .non H' ι' A'.Z A'.X .non
        | ret r2 S2 => cases hrun; exact fun v H' ι' Z' X' R' => hQ v H' ι' Z' X' R'
        | brk ρ' S2 => cases hrun
        | cont ρ' S2 => cases hrun
    · cases hrun

/-- a def that is known by name: its level, its parameters, its defaults, its promise -/
structure Kn (P : Program) (w : World) (K : PySem.W.Frag) (mg : Str → Option Value) (base : Heap) (k : Nat) (x : Str) (ps : List Str) (dvs : List V) (sp : Sp) : Prop where
  ex : ∃ (f : Addr) (fd : FuncData) (ds : List Value), FnOk P w K mg base CX0 k f fd ps sp ∧ mg x = some (.ref f) ∧ PySem.W.keepIn K (.ref f) = true ∧ Binds K fd ps ds ∧ Vals dvs ds
theorem pe_kn {X : Cx} {k : Nat} {x : Str} {ps : List Str} {dvs : List V} {sp : Sp} {p pos : Pos} {e : Expr} {es : List Expr} {t : TA} (G : Kn X.prog X.w X.K X.mg X.base k x ps dvs sp) (hr : Room k X.A) (hg : Gl X x) (ha : PA X (e :: es) t)
    (hdb : (x == ("__debug__" : Str)) = false := by decide) (he : starEach (e :: es) X.env = (false, eval e X.env) :: starEach es X.env := by rfl) (hpl : (backTo pos (starEach es X.env)).any (·.1) = false := by rfl) :
    PE X (.Call (.Name x p) (e :: es) [] pos) (tCall sp dvs L2.E0 t) := by
  obtain ⟨f, fd, ds, F, hm, hk, hb, hd⟩ := G.ex
  exact pe_call F hr hg hm hk hb hd L2.pass0 ha hdb he hpl
theorem pe_kn0 {X : Cx} {k : Nat} {x : Str} {ps : List Str} {dvs : List V} {sp : Sp} {p pos : Pos} (G : Kn X.prog X.w X.K X.mg X.base k x ps dvs sp) (hr : Room k X.A) (hg : Gl X x) (hdb : (x == ("__debug__" : Str)) = false := by decide) :
    PE X (.Call (.Name x p) [] [] pos) (tCall sp dvs L2.E0 tNil) := by
  obtain ⟨f, fd, ds, F, hm, hk, hb, hd⟩ := G.ex
  exact pe_call0 F hr hg hm hk hb hd L2.pass0 hdb
end
end Ev

set_option Elab.async false
set_option linter.all false
set_option maxRecDepth 100000
set_option maxHeartbeats 4000000
/-! What the printed texts use. -/
namespace Ev
open PySem PySem.Spec PyProof.Rows L2
theorem u65 {A : Around} {k : Nat} (hr : Room k A) : A.units + 65 < cLine := by have := hr.un; omega
theorem u16 {A : Around} {k : Nat} (hr : Room k A) : A.units + 16 < cLine := by have := hr.un; omega
theorem bb_len : bootBuiltins "len" = some (.builtin "len") := by decide +kernel
theorem bb_abs : bootBuiltins "abs" = some (.builtin "abs") := by decide +kernel
theorem bb_max : bootBuiltins "max" = some (.builtin "max") := by decide +kernel
theorem bb_min : bootBuiltins "min" = some (.builtin "min") := by decide +kernel
theorem bb_sum : bootBuiltins "sum" = some (.builtin "sum") := by decide +kernel
theorem bb_all : bootBuiltins "all" = some (.builtin "all") := by decide +kernel
theorem bb_sorted : bootBuiltins "sorted" = some (.builtin "sorted") := by decide +kernel
theorem bb_isinstance : bootBuiltins "isinstance" = some (.builtin "isinstance") := by decide +kernel
theorem bb_int : bootBuiltins "int" = some (.type "int") := by decide +kernel
theorem bb_bool : bootBuiltins "bool" = some (.type "bool") := by decide +kernel
theorem bb_str : bootBuiltins "str" = some (.type "str") := by decide +kernel
theorem bb_list : bootBuiltins "list" = some (.type "list") := by decide +kernel
theorem bb_tuple : bootBuiltins "tuple" = some (.type "tuple") := by decide +kernel
theorem bb_set : bootBuiltins "set" = some (.type "set") := by decide +kernel
theorem bb_range : bootBuiltins "range" = some (.type "range") := by decide +kernel
abbrev rSubI : R2 := rI0 fun i j => .int (i - j)
abbrev rDivI : R2 := rI CDiv fun i j => .int (i / j)
abbrev rModI : R2 := rI (fun _ j => 0 < j) fun i j => .int (i % j)
abbrev rPowI : R2 := rI CPow fun i j => .int (i ^ j.toNat)
abbrev rLtI : R2 := rI0 fun i j => .bl (decide (i < j))
abbrev rLeI : R2 := rI0 fun i j => .bl (decide (i ≤ j))
abbrev rGtI : R2 := rI0 fun i j => .bl (decide (j < i))
abbrev rGeI : R2 := rI0 fun i j => .bl (decide (j ≤ i))
abbrev rNegI : V → Hp → VK → Prop := rU fun i => .int (-i)
abbrev rAbsI : List V → Hp → VK → Prop := fun xs H Q => ∃ i, xs = [.int i] ∧ Q (.int (if i < 0 then -i else i)) H
abbrev rMax2I : List V → Hp → VK → Prop := fun xs H Q => ∃ i j, xs = [.int i, .int j] ∧ Q (.int (if j > i then j else i)) H
abbrev rStrI : List V → Hp → VK → Prop := fun xs H Q => ∃ i : Int, xs = [.int i] ∧ i.natAbs.log2 < 1920 ∧ Q (.str (toString i)) H
abbrev rListOf (K : PySem.W.Frag) : List V → Hp → VK → Prop := fun xs H Q => ∃ p ys, xs = [.ref p] ∧ (SqL K H p ys ∨ SqT K H p ys) ∧ ∀ l, H l = none → Q (.ref l) (upd H l (.lst ys))
abbrev rTupOf (K : PySem.W.Frag) : List V → Hp → VK → Prop := fun xs H Q => ∃ p ys, xs = [.ref p] ∧ ((SqL K H p ys ∧ ∀ l, H l = none → Q (.ref l) (upd H l (.tup ys))) ∨ (SqT K H p ys ∧ Q (.ref p) H))
/-- a module's whole number -/
theorem pe_gint {X : Cx} {x : Str} {i : Int} {pos : Pos} (h : ∃ t, X.mg x = some (.int i t)) (hg : Gl X x) (hd : (x == ("__debug__" : Str)) = false := by decide) : PE X (.Name x pos) (tC (.int i)) := by
  obtain ⟨t, h⟩ := h
  exact pe_glob hg h ⟨t, rfl⟩ hd
/-- a module's written tuple -/
def WrT (K : PySem.W.Frag) (mg : Str → Option Value) (x : Str) (vs : List V) : Prop := ∃ a, mg x = some (.ref a) ∧ ∀ H1 : Hp, SqT K H1 a vs
def tWr (K : PySem.W.Frag) (vs : List V) : TE := fun _ H Q => ∀ a, (∀ H1 : Hp, SqT K H1 a vs) → Q (.ref a) H
theorem pe_gtup {X : Cx} {x : Str} {vs : List V} {pos : Pos} (h : WrT X.K X.mg x vs) (hg : Gl X x) (hd : (x == ("__debug__" : Str)) = false := by decide) : PE X (.Name x pos) (tWr X.K vs) := by
  obtain ⟨a, h1, h2⟩ := h
  have p : PE X (.Name x pos) (tC (.ref a)) := pe_glob hg h1 rfl hd
  exact ⟨fun pins s σ H Q I q => p.run pins s σ H Q I (q a h2)⟩
def eCst (xs : List D) : E := fun _ S => some (.c xs, S)
theorem sim_cst {W : Wd} {xs : List D} {vs : List V} (h : flatsOf xs = some vs) : SimE W (tWr W.K vs) (eCst xs) := by
  intro σ H ι ρ S H0 z S' Z N e Q hQ a ha
  cases e
  exact hQ _ H ι Z .refl ⟨a, vs, rfl, h, ha⟩
/-- the reading of a store, all three -/
theorem ps_set3 {X : Cx} {o i e : Expr} {to ti te : TE} {p pos : Pos} (hu : X.A.units + 16 < cLine) (ho : PE X o to) (hi : PE X i ti) (he : PE X e te)
    (h1 : swapsWithSole [.Subscript o i p] e pos.line X.env = pure false := by rfl) (h2 : swappedStores [.Subscript o i p] e X.env = pure none := by rfl) (h3 : (assignEach [.Subscript o i p] X.env).map (·.2) = [assign (.Subscript o i p) X.env] := by rfl)
    (h4 : swapsWith e (some (.Subscript o i p)) pos.line X.env = pure false := by rfl)
    (ha : ∀ v, assign (.Subscript o i p) X.env v = (do
      let ov ← holding [v] (eval o X.env)
      let iv ← holding [v, ov] (eval i X.env)
      standAt p
      holding [v, ov, iv] (setItem ov iv v)
      release [v, ov, iv] []) := by intro _; rfl) : PS X (.Assign [.Subscript o i p] e pos) (tSet to ti te) :=
  PS.or (ps_asg he (pg_sub ho hi set_list ha) h1 h2 h3) (PS.or (ps_dput (by omega) ho hi he h4) (ps_asg he (pg_sub ho hi (set_N hu) ha) h1 h2 h3))
/-- (a, b, ..) = .., a tuple or a list -/
theorem pg_unp {X : Cx} {es : List Expr} {k : Nat} {is : List Nat} {pos : Pos} (hc : X.calm = true) (h : PGs X es (gNames is)) (hn : (assignEach es X.env).length = is.length := by rfl) (hst : (assignEach es X.env).findIdx? (·.1) = none := by rfl) :
    PG X (.Tuple es k pos) (gUnp X.K is) := PG.or (pg_tup hc h hn hst) (pg_unl hc h hn hst)
/-- a def without a run -/
theorem kn_none {P : Program} {w : World} {K : PySem.W.Frag} {mg : Str → Option Value} {base : Heap} {W : Wd} {k m : Nat} {f : Addr} {fd : FuncData} {ps : List Str} (hp : ps.length = m) : FnOk P w K mg base CX0 k f fd ps (spOf W m fun _ _ => none) :=
  ⟨fun vs H Q E h => h.1.trans hp.symm, fun A outer s H args us vs Q E _ _ _ _ h => by
    obtain ⟨_, _, _, _, _, _, _, _, _, e, _⟩ := h
    cases e⟩
end Ev

set_option Elab.async false
set_option linter.all false
set_option maxRecDepth 100000
set_option maxHeartbeats 4000000
/-! The head. -/
namespace Ev
open PySem PySem.Spec PyProof.Rows L2
abbrev AlB : Type := He.AlD × Bool
def obsBG (n : Nat) (fa : List He.Fa) (fn : List He.DefD) (ex : PySem.W.Frag → Bool) (g : Addr → Option Obj) : AlB := (He.obsD fa fn (He.frG g (He.asD g n)), ex (He.frG g (He.asD g n)))
def SaysB (fa : List He.Fa) (fn : List He.DefD) (ex : PySem.W.Frag → Bool) (K : PySem.W.Frag) : Prop := He.SaysD fa fn K ∧ ex K = true
def hookB (n : Nat) (fa : List He.Fa) (fn : List He.DefD) (ex : PySem.W.Frag → Bool) : PySem.W.Hook where
  α := AlB
  obs := fun s => obsBG n fa fn ex s.heap.get?
  val := fun _ => (He.valD fn, true)
  says := fun _ h => ∃ K : PySem.W.Frag, K.In h ∧ SaysB fa fn ex K
  of := fun _ _ e => ⟨_, He.frG_in, congrArg (fun z : AlB => z.1) e, congrArg (fun z : AlB => z.2) e⟩
  keeps := fun _ _ _ ⟨K, hK, c⟩ k => ⟨K, PySem.W.Frag.In.keeps hK k, c⟩
theorem obsBG_eq {n : Nat} {fa : List He.Fa} {fn : List He.DefD} {ex : PySem.W.Frag → Bool} {g : Addr → Option Obj} {s : Shared} (h : ∀ a, g a = s.heap.get? a) : obsBG n fa fn ex g = (hookB n fa fn ex).obs s := by
  have e : g = s.heap.get? := funext h
  rw [e] <;> rfl
theorem reps_nums {ι : Nat → Addr} {n : Nat} {H : Hp} : ∀ ns : List Int, Reps ι n H (ns.map D.int) (ns.map V.int)
  | [] => .nil
  | i :: ns => .cons (.int i) (reps_nums ns)
/-- the law's promise at the script -/
theorem law_sp {W : Wd} {run : Ru} {H : Hp} {a : Addr} {ns : List Int} {E : XK} (hO : Only H) (hS : SqL W.K H a (ns.map V.int)) (h : ∃ S', run [.f (ns.map D.int)] [] = some (.v (.bl true), S')) :
    spOf W 1 run [.ref a] H (fun v _ => v = .bl true) E := by
  obtain ⟨S', h⟩ := h
  refine ⟨rfl, fun _ => 0, [], H, [.f (ns.map D.int)], _, S', ⟨(fun h u e => by cases e), fun i j hi => absurd hi (Nat.not_lt_zero _)⟩, .cons ⟨a, _, rfl, ?_, reps_nums ns⟩ .nil, h, fun v H' ι' _ _ r => ?_⟩
  · rcases hS with hS | hS
    · rcases hS with hS | ⟨o, hS⟩
      · rcases hO a with q | ⟨o, xs, q⟩
        · rw [hS] at q; cases q
        · rw [hS] at q; cases q
      · exact .inl ⟨o, hS, fun h hh => absurd hh (Nat.not_lt_zero _)⟩
    · exact .inr hS
  · have r' : Rep ι' S'.length H' (.bl true) v := r
    cases r'
    rfl
theorem wr_of {K : PySem.W.Frag} {mg : Str → Option Value} {x : Str} {vs : List He.Dv} (hm : mg x = some (.ref (He.ga K x))) (h : He.tupB K x vs = true) : WrT K mg x (vs.map (He.Dv.v K)) :=
  ⟨_, hm, fun H1 => He.tupB_ok h H1⟩
end Ev

set_option Elab.async false
set_option linter.all false
set_option maxRecDepth 100000
set_option maxHeartbeats 0
namespace Ev
open PySem PySem.Spec PyProof.Rows L2
def top (i : Nat) : Stmt := PySem.Challenge.pw_lentfiles_k02_whole_histories_judged.main.body.getD i (.Pass ⟨0, 0, 0, 0⟩)
abbrev Wv (P : Program) (w : World) (K : PySem.W.Frag) (CA : Nat → Addr) : Wd := ⟨P, w, K, CA, []⟩
structure Fx (K : PySem.W.Frag) (mg : Str → Option Value) : Prop where
  b_abs : mg "abs" = none
  b_all : mg "all" = none
  b_bool : mg "bool" = none
  b_enumerate : mg "enumerate" = none
  b_int : mg "int" = none
  b_isinstance : mg "isinstance" = none
  b_len : mg "len" = none
  b_list : mg "list" = none
  b_max : mg "max" = none
  b_min : mg "min" = none
  b_range : mg "range" = none
  b_set : mg "set" = none
  b_sorted : mg "sorted" = none
  b_str : mg "str" = none
  b_tuple : mg "tuple" = none
  c_FILES : ∃ t, mg "FILES" = some (.int 10 t)
  c_MOMENTS : ∃ t, mg "MOMENTS" = some (.int 10000 t)
  c_MOST_FILES : ∃ t, mg "MOST_FILES" = some (.int 4 t)
  c_MOST_ROWS : ∃ t, mg "MOST_ROWS" = some (.int 12 t)
  c_PLAIN : WrT K mg "PLAIN" [.str "look", .str "put", .str "add", .str "move"]
  c_USERS : ∃ t, mg "USERS" = some (.int 100 t)
  c_WORTHS : ∃ t, mg "WORTHS" = some (.int 1000 t)
section
variable {P : Program} {w : World} {K : PySem.W.Frag} {mg : Str → Option Value} {base : Heap} {CA : Nat → Addr}
abbrev st__law_dice : Stmt := top 26
def bd__law_dice_1 : Sx := (sAsg 2 (eBin gMod (eBin gAdd (eBin gMul (eVar 2) (eLit (.int 31))) (eBlt gAbs [(eVar 3)])) (eLit (.int 2147483647))))
def bo__law_dice : Sx := (sSeq (sAsg 2 (eVar 1)) (sSeq (sFor (fVar 0) (tgName 3) bd__law_dice_1) (sRet (eBin gAdd (eLst [(eVar 2), (eLit (.int 0))]) (eComp (fVar 0) (tgName 3) [3] (eBin gGe (eVar 3) (eBin gPow (eLit (.int 10)) (eLit (.int 18)))) (eVar 3))))))
def ev__law_dice : Ru := runOf 4 bo__law_dice
theorem sc__law_dice : FnScope ["_law_script", "_law_k", "_law_found", "_law_cell"] ["_law_script", "_law_k"] (defScope st__law_dice) := ⟨rfl, rfl, rfl, by decide +kernel, rfl, by decide +kernel, by decide +kernel⟩
def t__law_dice (P : Program) (w : World) (K : PySem.W.Frag) (CA : Nat → Addr) : TS := (tSeq (tAsg (tVar 1) (gName 2)) (tSeq (tFor (iSeq K (tVar 0)) (gName 3) (tAsg (tOp rModI (tOp (rAddA K) (tOp (rMulA K) (tVar 2) (tC (.int 31))) (tCB rAbsI (tCons (tVar 3) tNil))) (tC (.int 2147483647))) (gName 2))) (tRet (tOp (rAddA K) (tLst (tCons (tVar 2) (tCons (tC (.int 0)) tNil))) (tLc (iSeq K (tVar 0)) (gName 3) (tTest (tOp rGeI (tVar 3) (tOp rPowI (tC (.int 10)) (tC (.int 18))))) (tVar 3) [3])))))
theorem sim__law_dice : SimS (Wv P w K CA) (t__law_dice P w K CA) (bo__law_dice) := (simS_seq (simS_asg sim_var) (simS_seq (simS_for simI_var tg_name (simS_asg (sim_bin (sim_bin (sim_bin sim_var sim_int sim_mul) (sim_blt (simA_cons sim_var simA_nil) sim_abs) sim_add) sim_int sim_mod))) (simS_ret (sim_bin (sim_lst (simA_cons sim_var (simA_cons sim_int simA_nil))) (sim_comp (js := [3]) (vs := [3]) simI_var simG_name (by decide) (simT_test (sim_bin sim_var (sim_bin sim_int sim_int sim_pow) sim_ge)) sim_var) sim_add))))
theorem ok__law_dice (T : Fx K mg) {f : Addr} {fd : FuncData} (F : FnP K "_law_dice" "_law_dice" st__law_dice [] f fd)   : FnOk P w K mg base CX0 1 f fd ["_law_script", "_law_k"] (spOf (Wv P w K CA) 2 ev__law_dice) := by
  have sc := sc__law_dice
  refine fn_ok F sc fun cdv A outer s H E hr => ⟨t__law_dice P w K CA, ?_, sim__law_dice⟩
  exact (pss_cons (ps_set (i := 2) sc.nd rfl (by first | exact .inl rfl | exact .inr rfl) (pv 1)) (pss_cons (ps_for PassesOwn.never rfl (pi_seq (pv 0)) (pg_name (i := 3) sc.nd rfl (by first | exact .inl rfl | exact .inr rfl)) (pss_one (ps_set (i := 2) sc.nd rfl (by first | exact .inl rfl | exact .inr rfl) (pe_op op_mod (pe_op op_addA (pe_op op_mulA (pv 2) pe_int) (pe_callB call_abs (by rfl) T.b_abs bb_abs (pa_cons (pv 3) pa_nil))) pe_int)))) (pss_one (ps_ret (pe_op op_addA (pe_lst (pa_cons (pv 2) (pa_cons pe_int pa_nil))) (pe_lc (own := [("_law_cell", 3)]) rfl sc.nd (pi_seq (pv 0)) (blkOk_by (by kernel_rfl)) (fun _ _ _ _ _ => (pg_name (i := 3) sc.nd rfl (by first | exact .inl rfl | exact .inr rfl))) (fun _ _ _ _ _ => (pts_one (pt_cmpR op_ge (pv 3) (pe_op op_pow pe_int pe_int) (nomark _)))) (fun _ _ _ _ _ => (pv 3))))))))
abbrev st__law_off : Stmt := top 27
def bo__law_off : Sx := (sSeq (sIf (eAnd (eBin gEq (eBin gIx (eVar 0) (eLit (.int 1))) (eLit (.int 0))) (eBin gGt (eBlt gLen [(eVar 0)]) (eLit (.int 2)))) (sSet (eVar 0) (eLit (.int 1)) (eLPop (eVar 0) (eLit (.int 2)))) sNil) (sSeq (sIf (eBin gGt (eBin gIx (eVar 0) (eLit (.int 1))) (eLit (.int 0))) (sSeq (sAsg 2 (eBin gMod (eBin gIx (eVar 0) (eLit (.int 1))) (eVar 1))) (sSeq (sSet (eVar 0) (eLit (.int 1)) (eBin gFdiv (eBin gIx (eVar 0) (eLit (.int 1))) (eVar 1))) (sRetVar 2))) sNil) (sSeq (sSet (eVar 0) (eLit (.int 0)) (eBin gMod (eBin gAdd (eBin gMul (eBin gIx (eVar 0) (eLit (.int 0))) (eLit (.int 48271))) (eLit (.int 11))) (eLit (.int 2147483647)))) (sRet (eBin gMod (eBin gFdiv (eBin gIx (eVar 0) (eLit (.int 0))) (eLit (.int 64))) (eVar 1))))))
def ev__law_off : Ru := runOf 3 bo__law_off
theorem sc__law_off : FnScope ["_law_d", "_law_most", "_law_found"] ["_law_d", "_law_most"] (defScope st__law_off) := ⟨rfl, rfl, rfl, by decide +kernel, rfl, by decide +kernel, by decide +kernel⟩
def t__law_off (P : Program) (w : World) (K : PySem.W.Frag) (CA : Nat → Addr) : TS := (tSeq (tIfS (tAnd (tTest (tOp (rEqD K) (tIxA K (tVar 0) (tC (.int 1))) (tC (.int 0)))) (tTest (tOp rGtI (tCB (rLenA K) (tCons (tVar 0) tNil)) (tC (.int 2))))) (tSet (tVar 0) (tC (.int 1)) (tBM K "list" rPopAt (tVar 0) (tCons (tC (.int 2)) tNil))) tNext) (tSeq (tIfS (tTest (tOp rGtI (tIxA K (tVar 0) (tC (.int 1))) (tC (.int 0)))) (tSeq (tAsg (tOp rModI (tIxA K (tVar 0) (tC (.int 1))) (tVar 1)) (gName 2)) (tSeq (tSet (tVar 0) (tC (.int 1)) (tOp rDivI (tIxA K (tVar 0) (tC (.int 1))) (tVar 1))) (tRet (tVar 2)))) tNext) (tSeq (tSet (tVar 0) (tC (.int 0)) (tOp rModI (tOp (rAddA K) (tOp (rMulA K) (tIxA K (tVar 0) (tC (.int 0))) (tC (.int 48271))) (tC (.int 11))) (tC (.int 2147483647)))) (tRet (tOp rModI (tOp rDivI (tIxA K (tVar 0) (tC (.int 0))) (tC (.int 64))) (tVar 1))))))
theorem sim__law_off : SimS (Wv P w K CA) (t__law_off P w K CA) (bo__law_off) := (simS_seq (simS_if (simT_and (simT_test (sim_bin (sim_ix sim_var sim_int) sim_int sim_eq)) (simT_test (sim_bin (sim_blt (simA_cons sim_var simA_nil) sim_len) sim_int sim_gt))) (simS_set sim_var sim_int (sim_lpop sim_var sim_int)) simS_nil) (simS_seq (simS_if (simT_test (sim_bin (sim_ix sim_var sim_int) sim_int sim_gt)) (simS_seq (simS_asg (sim_bin (sim_ix sim_var sim_int) sim_var sim_mod)) (simS_seq (simS_set sim_var sim_int (sim_bin (sim_ix sim_var sim_int) sim_var sim_fdiv)) simS_retVar)) simS_nil) (simS_seq (simS_set sim_var sim_int (sim_bin (sim_bin (sim_bin (sim_ix sim_var sim_int) sim_int sim_mul) sim_int sim_add) sim_int sim_mod)) (simS_ret (sim_bin (sim_bin (sim_ix sim_var sim_int) sim_int sim_fdiv) sim_var sim_mod)))))
theorem ok__law_off (T : Fx K mg) {f : Addr} {fd : FuncData} (F : FnP K "_law_off" "_law_off" st__law_off [] f fd)   : FnOk P w K mg base CX0 1 f fd ["_law_d", "_law_most"] (spOf (Wv P w K CA) 2 ev__law_off) := by
  have sc := sc__law_off
  refine fn_ok F sc fun cdv A outer s H E hr => ⟨t__law_off P w K CA, ?_, sim__law_off⟩
  exact (pss_cons (ps_if (PW.pt (pw_and (pt_cmpR (op_eqD hr.units) (pe_ixA (hu_of hr) (pv 0) pe_int (fun _ _ => rfl)) pe_int (nomark _)) (pw_and1 (pt_cmpR op_gt (pe_callB call_lenA (by rfl) T.b_len bb_len (pa_cons (pv 0) pa_nil)) pe_int (nomark _))))) (pss_one (ps_set3 (u16 hr) (pv 0) pe_int (pe_bm PySem.F.plainAttrs_list PySem.F.slot_list_pop PySem.F.type_list_pop mt_popAt (pv 0) (pa_cons pe_int pa_nil)))) pss_nil) (pss_cons (ps_if (pt_cmpR op_gt (pe_ixA (hu_of hr) (pv 0) pe_int (fun _ _ => rfl)) pe_int (nomark _)) (pss_cons (ps_set (i := 2) sc.nd rfl (by first | exact .inl rfl | exact .inr rfl) (pe_op op_mod (pe_ixA (hu_of hr) (pv 0) pe_int (fun _ _ => rfl)) (pv 1))) (pss_cons (ps_set3 (u16 hr) (pv 0) pe_int (pe_op op_fdiv (pe_ixA (hu_of hr) (pv 0) pe_int (fun _ _ => rfl)) (pv 1))) (pss_one (ps_ret (pv 2))))) pss_nil) (pss_cons (ps_set3 (u16 hr) (pv 0) pe_int (pe_op op_mod (pe_op op_addA (pe_op op_mulA (pe_ixA (hu_of hr) (pv 0) pe_int (fun _ _ => rfl)) pe_int) pe_int) pe_int)) (pss_one (ps_ret (pe_op op_mod (pe_op op_fdiv (pe_ixA (hu_of hr) (pv 0) pe_int (fun _ _ => rfl)) pe_int) (pv 1)))))))
abbrev st__law_mixed : Stmt := top 29
def bd__law_mixed_1 : Sx := (sAppPop 3 2 (eCall ev__law_off [] [(eVar 0), (eBlt gLen [(eVar 2)])]))
def bo__law_mixed : Sx := (sSeq (sAsg 2 (eBlt gList [(eVar 1)])) (sSeq (sAsg 3 (eLst [])) (sSeq (whileF (eBin gNe (eVar 2) (eLst [])) bd__law_mixed_1 100000) (sRetVar 3))))
def ev__law_mixed : Ru := runOf 4 bo__law_mixed
theorem sc__law_mixed : FnScope ["_law_d", "_law_row", "_law_left", "_law_found"] ["_law_d", "_law_row"] (defScope st__law_mixed) := ⟨rfl, rfl, rfl, by decide +kernel, rfl, by decide +kernel, by decide +kernel⟩
def t__law_mixed (P : Program) (w : World) (K : PySem.W.Frag) (CA : Nat → Addr) : TS := (tSeq (tAsg (tCB (rListOf K) (tCons (tVar 1) tNil)) (gName 2)) (tSeq (tAsg (tLst tNil) (gName 3)) (tSeq (tWhile (tTest (tOp (rNeD K) (tVar 2) (tLst tNil))) (tDrop (tApp K (tVar 3) (tBM K "list" rPopAt (tVar 2) (tCons (tCall (spOf (Wv P w K CA) 2 ev__law_off) [] L2.E0 (tCons (tVar 0) (tCons (tCB (rLenA K) (tCons (tVar 2) tNil)) tNil))) tNil))))) (tRet (tVar 3)))))
theorem sim__law_mixed : SimS (Wv P w K CA) (t__law_mixed P w K CA) (bo__law_mixed) := (simS_seq (simS_asg (sim_blt (simA_cons sim_var simA_nil) sim_list)) (simS_seq (simS_asg (sim_lst simA_nil)) (simS_seq (simS_while (simT_test (sim_bin sim_var (sim_lst simA_nil) sim_ne)) (simS_appPop (sim_call (dfl := []) (simA_cons sim_var (simA_cons (sim_blt (simA_cons sim_var simA_nil) sim_len) simA_nil)) rfl rfl))) simS_retVar)))
theorem ok__law_mixed (T : Fx K mg) {f : Addr} {fd : FuncData} (F : FnP K "_law_mixed" "_law_mixed" st__law_mixed [] f fd) (G__law_off : Kn P w K mg base 1 "_law_off" ["_law_d", "_law_most"] [] (spOf (Wv P w K CA) 2 ev__law_off))  : FnOk P w K mg base CX0 2 f fd ["_law_d", "_law_row"] (spOf (Wv P w K CA) 2 ev__law_mixed) := by
  have sc := sc__law_mixed
  refine fn_ok F sc fun cdv A outer s H E hr => ⟨t__law_mixed P w K CA, ?_, sim__law_mixed⟩
  exact (pss_cons (ps_set (i := 2) sc.nd rfl (by first | exact .inl rfl | exact .inr rfl) (pe_callTy call_list_of (by rfl) T.b_list bb_list (pa_cons (pv 1) pa_nil))) (pss_cons (ps_set (i := 3) sc.nd rfl (by first | exact .inl rfl | exact .inr rfl) (pe_lst pa_nil)) (pss_cons (ps_while PassesOwn.never (pt_cmpR (op_neD hr.units) (pv 2) (pe_lst pa_nil) (nomark _)) (pss_one (ps_expr (pe_bm PySem.F.plainAttrs_list PySem.F.slot_list_append PySem.F.type_list_append mt_append (pv 3) (pa_cons (pe_bm PySem.F.plainAttrs_list PySem.F.slot_list_pop PySem.F.type_list_pop mt_popAt (pv 2) (pa_cons (pe_kn G__law_off (hr.mono (by omega)) (by rfl) (pa_cons (pv 0) (pa_cons (pe_callB call_lenA (by rfl) T.b_len bb_len (pa_cons (pv 2) pa_nil)) pa_nil))) pa_nil)) pa_nil))))) (pss_one (ps_ret (pv 3))))))
abbrev st__law_some : Stmt := top 37
def bo__law_some : Sx := (sRet (eDispGet [1, 2, 3] [(eLst [(eLit (.int 9))]), (eLst [(eLit (.int 0)), (eLit (.int 9))]), (eLst [(eLit (.int 0)), (eLit (.int 4)), (eLit (.int 9))])] (eVar 0) (eListRg (eVar 0))))
def ev__law_some : Ru := runOf 1 bo__law_some
theorem sc__law_some : FnScope ["_law_few"] ["_law_few"] (defScope st__law_some) := ⟨rfl, rfl, rfl, by decide +kernel, rfl, by decide +kernel, by decide +kernel⟩
def t__law_some (P : Program) (w : World) (K : PySem.W.Frag) (CA : Nat → Addr) : TS := (tRet (tDGet2 (tDisp (tPrs [1, 2, 3] [(tLst (tCons (tC (.int 9)) tNil)), (tLst (tCons (tC (.int 0)) (tCons (tC (.int 9)) tNil))), (tLst (tCons (tC (.int 0)) (tCons (tC (.int 4)) (tCons (tC (.int 9)) tNil))))])) (tVar 0) (tLstRg (tRg1 (tVar 0)))))
theorem sim__law_some : SimS (Wv P w K CA) (t__law_some P w K CA) (bo__law_some) := (simS_ret (sim_dispGet (ks := [1, 2, 3]) (.cons (sim_lst (simA_cons sim_int simA_nil)) (.cons (sim_lst (simA_cons sim_int (simA_cons sim_int simA_nil))) (.cons (sim_lst (simA_cons sim_int (simA_cons sim_int (simA_cons sim_int simA_nil)))) .nil))) rfl sim_var (sim_listRg sim_var)))
theorem ok__law_some (T : Fx K mg) {f : Addr} {fd : FuncData} (F : FnP K "_law_some" "_law_some" st__law_some [] f fd)   : FnOk P w K mg base CX0 1 f fd ["_law_few"] (spOf (Wv P w K CA) 1 ev__law_some) := by
  have sc := sc__law_some
  refine fn_ok F sc fun cdv A outer s H E hr => ⟨t__law_some P w K CA, ?_, sim__law_some⟩
  exact (pss_one (ps_ret (pe_dget2 (hu_of hr) (pe_disp (pps_cons pe_int (pe_lst (pa_cons pe_int pa_nil)) (pps_cons pe_int (pe_lst (pa_cons pe_int (pa_cons pe_int pa_nil))) (pps_cons pe_int (pe_lst (pa_cons pe_int (pa_cons pe_int (pa_cons pe_int pa_nil)))) pps_nil))) (by rfl) (by rfl) (fun z => by cases z) (by decide)) (pv 0) (pe_listRg rfl (by rfl) T.b_list (prg_1 (by rfl) T.b_range (pv 0))) ⟨rfl, rfl, rfl, rfl⟩)))
abbrev st__law_files : Stmt := top 30
def bo__law_files : Sx := (sSeq (sAsg 2 (eSlice (eCall ev__law_mixed [] [(eVar 0), (eCall ev__law_some [] [(eVar 1)])]) none (some (eBin gAdd (eLit (.int 1)) (eCall ev__law_off [] [(eVar 0), (eBlt gMin [(eLit (.int 4)), (eVar 1)])]))))) (sRet (eBlt gTuple [(eBlt gSorted [(eVar 2)])])))
def ev__law_files : Ru := runOf 3 bo__law_files
theorem sc__law_files : FnScope ["_law_d", "_law_few", "_law_some_here"] ["_law_d", "_law_few"] (defScope st__law_files) := ⟨rfl, rfl, rfl, by decide +kernel, rfl, by decide +kernel, by decide +kernel⟩
def t__law_files (P : Program) (w : World) (K : PySem.W.Frag) (CA : Nat → Addr) : TS := (tSeq (tAsg (tSl (rSlB K) (tCall (spOf (Wv P w K CA) 2 ev__law_mixed) [] L2.E0 (tCons (tVar 0) (tCons (tCall (spOf (Wv P w K CA) 1 ev__law_some) [] L2.E0 (tCons (tVar 1) tNil)) tNil))) tNoPart (tPart (tOp (rAddA K) (tC (.int 1)) (tCall (spOf (Wv P w K CA) 2 ev__law_off) [] L2.E0 (tCons (tVar 0) (tCons (tCB (rMinA K) (tCons (tC (.int 4)) (tCons (tVar 1) tNil))) tNil)))))) (gName 2)) (tRet (tCB (rTupOf K) (tCons (tCB (rSortedI K) (tCons (tVar 2) tNil)) tNil))))
theorem sim__law_files : SimS (Wv P w K CA) (t__law_files P w K CA) (bo__law_files) := (simS_seq (simS_asg (sim_slice (sim_call (dfl := []) (simA_cons sim_var (simA_cons (sim_call (dfl := []) (simA_cons sim_var simA_nil) rfl rfl) simA_nil)) rfl rfl) simP_none (simP_some (sim_bin sim_int (sim_call (dfl := []) (simA_cons sim_var (simA_cons (sim_blt (simA_cons sim_int (simA_cons sim_var simA_nil)) sim_min) simA_nil)) rfl rfl) sim_add)))) (simS_ret (sim_blt (simA_cons (sim_blt (simA_cons sim_var simA_nil) sim_sorted) simA_nil) sim_tuple)))
theorem ok__law_files (T : Fx K mg) {f : Addr} {fd : FuncData} (F : FnP K "_law_files" "_law_files" st__law_files [] f fd) (G__law_mixed : Kn P w K mg base 2 "_law_mixed" ["_law_d", "_law_row"] [] (spOf (Wv P w K CA) 2 ev__law_mixed)) (G__law_some : Kn P w K mg base 1 "_law_some" ["_law_few"] [] (spOf (Wv P w K CA) 1 ev__law_some)) (G__law_off : Kn P w K mg base 1 "_law_off" ["_law_d", "_law_most"] [] (spOf (Wv P w K CA) 2 ev__law_off))  : FnOk P w K mg base CX0 3 f fd ["_law_d", "_law_few"] (spOf (Wv P w K CA) 2 ev__law_files) := by
  have sc := sc__law_files
  refine fn_ok F sc fun cdv A outer s H E hr => ⟨t__law_files P w K CA, ?_, sim__law_files⟩
  exact (pss_cons (ps_set (i := 2) sc.nd rfl (by first | exact .inl rfl | exact .inr rfl) (pe_slice sl_any (pe_kn G__law_mixed (hr.mono (by omega)) (by rfl) (pa_cons (pv 0) (pa_cons (pe_kn G__law_some (hr.mono (by omega)) (by rfl) (pa_cons (pv 1) pa_nil)) pa_nil))) po_none (po_some (pe_op op_addA pe_int (pe_kn G__law_off (hr.mono (by omega)) (by rfl) (pa_cons (pv 0) (pa_cons (pe_callB (call_minA rfl) (by rfl) T.b_min bb_min (pa_cons pe_int (pa_cons (pv 1) pa_nil))) pa_nil))))))) (pss_one (ps_ret (pe_callTy call_tuple_of (by rfl) T.b_tuple bb_tuple (pa_cons (pe_callB cr_sortedI (by rfl) T.b_sorted bb_sorted (pa_cons (pv 2) pa_nil)) pa_nil)))))
abbrev st__law_deed : Stmt := top 31
def bo__law_deed : Sx := (sSeq (sAsg 2 (eCall ev__law_off [] [(eVar 0), (eLit (.int 10))])) (sSeq (sIf (eBin gLt (eVar 2) (eLit (.int 5))) (sRet (eTup [(eLit (.str "look")), (eCall ev__law_files [] [(eVar 0), (eVar 1)])])) sNil) (sSeq (sAsg 3 (ePick [(eCall ev__law_off [] [(eVar 0), (eLit (.int 6))]), (ePick [(eLit (.int 700)), (eCall ev__law_off [] [(eVar 0), (eLit (.int 1000))])] (eCall ev__law_off [] [(eVar 0), (eLit (.int 2))]))] (eBlt gInt [(eBin gEq (eCall ev__law_off [] [(eVar 0), (eLit (.int 4))]) (eLit (.int 0)))]))) (sSeq (sIf (eBin gLt (eVar 2) (eLit (.int 7))) (sRet (eTup [(eLit (.str "put")), (eBlt gTuple [(eComp (fSeq (eCall ev__law_files [] [(eVar 0), (eVar 1)])) (tgName 4) [4] eTrue (eTup [(eVar 4), (eBin gAdd (eCall ev__law_off [] [(eVar 0), (eLit (.int 5))]) (eBin gMod (eVar 3) (eLit (.int 996))))]))])])) sNil) (sSeq (sIf (eOr (eBin gLt (eVar 2) (eLit (.int 9))) (eBin gLt (eVar 1) (eLit (.int 2)))) (sRet (eTup [(eLit (.str "add")), (eBin gIx (eCall ev__law_some [] [(eVar 1)]) (eCall ev__law_off [] [(eVar 0), (eVar 1)])), (ePick [(eBin gAdd (eLit (.int 1)) (eCall ev__law_off [] [(eVar 0), (eLit (.int 4))])), (eVar 3)] (eBlt gInt [(eBin gEq (eCall ev__law_off [] [(eVar 0), (eLit (.int 4))]) (eLit (.int 0)))]))])) sNil) (sSeq (sUnp [4, 5] (eSlice (eCall ev__law_mixed [] [(eVar 0), (eCall ev__law_some [] [(eVar 1)])]) none (some (eLit (.int 2))))) (sRet (eTup [(eLit (.str "move")), (eVar 4), (eVar 5), (ePick [(eCall ev__law_off [] [(eVar 0), (eLit (.int 5))]), (eVar 3)] (eBlt gInt [(eBin gEq (eCall ev__law_off [] [(eVar 0), (eLit (.int 4))]) (eLit (.int 0)))]))]))))))))
def ev__law_deed : Ru := runOf 6 bo__law_deed
theorem sc__law_deed : FnScope ["_law_d", "_law_few", "_law_kind", "_law_worth", "_law_one", "_law_other"] ["_law_d", "_law_few"] (defScope st__law_deed) := ⟨rfl, rfl, rfl, by decide +kernel, rfl, by decide +kernel, by decide +kernel⟩
def t__law_deed (P : Program) (w : World) (K : PySem.W.Frag) (CA : Nat → Addr) : TS := (tSeq (tAsg (tCall (spOf (Wv P w K CA) 2 ev__law_off) [] L2.E0 (tCons (tVar 0) (tCons (tC (.int 10)) tNil))) (gName 2)) (tSeq (tIfS (tTest (tOp rLtI (tVar 2) (tC (.int 5)))) (tRet (tTup (tCons (tC (.str "look")) (tCons (tCall (spOf (Wv P w K CA) 2 ev__law_files) [] L2.E0 (tCons (tVar 0) (tCons (tVar 1) tNil))) tNil)))) tNext) (tSeq (tAsg (tIxA K (tLst (tCons (tCall (spOf (Wv P w K CA) 2 ev__law_off) [] L2.E0 (tCons (tVar 0) (tCons (tC (.int 6)) tNil))) (tCons (tIxA K (tLst (tCons (tC (.int 700)) (tCons (tCall (spOf (Wv P w K CA) 2 ev__law_off) [] L2.E0 (tCons (tVar 0) (tCons (tC (.int 1000)) tNil))) tNil))) (tCall (spOf (Wv P w K CA) 2 ev__law_off) [] L2.E0 (tCons (tVar 0) (tCons (tC (.int 2)) tNil)))) tNil))) (tCB rIntA (tCons (tOp (rEqD K) (tCall (spOf (Wv P w K CA) 2 ev__law_off) [] L2.E0 (tCons (tVar 0) (tCons (tC (.int 4)) tNil))) (tC (.int 0))) tNil))) (gName 3)) (tSeq (tIfS (tTest (tOp rLtI (tVar 2) (tC (.int 7)))) (tRet (tTup (tCons (tC (.str "put")) (tCons (tCB (rTupOf K) (tCons (tLc (iSeq K (tCall (spOf (Wv P w K CA) 2 ev__law_files) [] L2.E0 (tCons (tVar 0) (tCons (tVar 1) tNil)))) (gName 4) tYes (tTup (tCons (tVar 4) (tCons (tOp (rAddA K) (tCall (spOf (Wv P w K CA) 2 ev__law_off) [] L2.E0 (tCons (tVar 0) (tCons (tC (.int 5)) tNil))) (tOp rModI (tVar 3) (tC (.int 996)))) tNil))) [4]) tNil)) tNil)))) tNext) (tSeq (tIfS (tOr (tTest (tOp rLtI (tVar 2) (tC (.int 9)))) (tTest (tOp rLtI (tVar 1) (tC (.int 2))))) (tRet (tTup (tCons (tC (.str "add")) (tCons (tIxA K (tCall (spOf (Wv P w K CA) 1 ev__law_some) [] L2.E0 (tCons (tVar 1) tNil)) (tCall (spOf (Wv P w K CA) 2 ev__law_off) [] L2.E0 (tCons (tVar 0) (tCons (tVar 1) tNil)))) (tCons (tIxA K (tLst (tCons (tOp (rAddA K) (tC (.int 1)) (tCall (spOf (Wv P w K CA) 2 ev__law_off) [] L2.E0 (tCons (tVar 0) (tCons (tC (.int 4)) tNil)))) (tCons (tVar 3) tNil))) (tCB rIntA (tCons (tOp (rEqD K) (tCall (spOf (Wv P w K CA) 2 ev__law_off) [] L2.E0 (tCons (tVar 0) (tCons (tC (.int 4)) tNil))) (tC (.int 0))) tNil))) tNil))))) tNext) (tSeq (tAsg (tSl (rSlB K) (tCall (spOf (Wv P w K CA) 2 ev__law_mixed) [] L2.E0 (tCons (tVar 0) (tCons (tCall (spOf (Wv P w K CA) 1 ev__law_some) [] L2.E0 (tCons (tVar 1) tNil)) tNil))) tNoPart (tPart (tC (.int 2)))) (gUnp K [4, 5])) (tRet (tTup (tCons (tC (.str "move")) (tCons (tVar 4) (tCons (tVar 5) (tCons (tIxA K (tLst (tCons (tCall (spOf (Wv P w K CA) 2 ev__law_off) [] L2.E0 (tCons (tVar 0) (tCons (tC (.int 5)) tNil))) (tCons (tVar 3) tNil))) (tCB rIntA (tCons (tOp (rEqD K) (tCall (spOf (Wv P w K CA) 2 ev__law_off) [] L2.E0 (tCons (tVar 0) (tCons (tC (.int 4)) tNil))) (tC (.int 0))) tNil))) tNil))))))))))))
theorem sim__law_deed : SimS (Wv P w K CA) (t__law_deed P w K CA) (bo__law_deed) := (simS_seq (simS_asg (sim_call (dfl := []) (simA_cons sim_var (simA_cons sim_int simA_nil)) rfl rfl)) (simS_seq (simS_if (simT_test (sim_bin sim_var sim_int sim_lt)) (simS_ret (sim_tup (simA_cons sim_str (simA_cons (sim_call (dfl := []) (simA_cons sim_var (simA_cons sim_var simA_nil)) rfl rfl) simA_nil)))) simS_nil) (simS_seq (simS_asg (sim_pick (simA_cons (sim_call (dfl := []) (simA_cons sim_var (simA_cons sim_int simA_nil)) rfl rfl) (simA_cons (sim_pick (simA_cons sim_int (simA_cons (sim_call (dfl := []) (simA_cons sim_var (simA_cons sim_int simA_nil)) rfl rfl) simA_nil)) (sim_call (dfl := []) (simA_cons sim_var (simA_cons sim_int simA_nil)) rfl rfl)) simA_nil)) (sim_blt (simA_cons (sim_bin (sim_call (dfl := []) (simA_cons sim_var (simA_cons sim_int simA_nil)) rfl rfl) sim_int sim_eq) simA_nil) sim_intc))) (simS_seq (simS_if (simT_test (sim_bin sim_var sim_int sim_lt)) (simS_ret (sim_tup (simA_cons sim_str (simA_cons (sim_blt (simA_cons (sim_comp (js := [4]) (vs := [4]) (simI_seq (sim_call (dfl := []) (simA_cons sim_var (simA_cons sim_var simA_nil)) rfl rfl)) simG_name (by decide) simT_yes (sim_tup (simA_cons sim_var (simA_cons (sim_bin (sim_call (dfl := []) (simA_cons sim_var (simA_cons sim_int simA_nil)) rfl rfl) (sim_bin sim_var sim_int sim_mod) sim_add) simA_nil)))) simA_nil) sim_tuple) simA_nil)))) simS_nil) (simS_seq (simS_if (simT_or (simT_test (sim_bin sim_var sim_int sim_lt)) (simT_test (sim_bin sim_var sim_int sim_lt))) (simS_ret (sim_tup (simA_cons sim_str (simA_cons (sim_ix (sim_call (dfl := []) (simA_cons sim_var simA_nil) rfl rfl) (sim_call (dfl := []) (simA_cons sim_var (simA_cons sim_var simA_nil)) rfl rfl)) (simA_cons (sim_pick (simA_cons (sim_bin sim_int (sim_call (dfl := []) (simA_cons sim_var (simA_cons sim_int simA_nil)) rfl rfl) sim_add) (simA_cons sim_var simA_nil)) (sim_blt (simA_cons (sim_bin (sim_call (dfl := []) (simA_cons sim_var (simA_cons sim_int simA_nil)) rfl rfl) sim_int sim_eq) simA_nil) sim_intc)) simA_nil))))) simS_nil) (simS_seq (simS_unp (sim_slice (sim_call (dfl := []) (simA_cons sim_var (simA_cons (sim_call (dfl := []) (simA_cons sim_var simA_nil) rfl rfl) simA_nil)) rfl rfl) simP_none (simP_some sim_int))) (simS_ret (sim_tup (simA_cons sim_str (simA_cons sim_var (simA_cons sim_var (simA_cons (sim_pick (simA_cons (sim_call (dfl := []) (simA_cons sim_var (simA_cons sim_int simA_nil)) rfl rfl) (simA_cons sim_var simA_nil)) (sim_blt (simA_cons (sim_bin (sim_call (dfl := []) (simA_cons sim_var (simA_cons sim_int simA_nil)) rfl rfl) sim_int sim_eq) simA_nil) sim_intc)) simA_nil))))))))))))
theorem ok__law_deed (T : Fx K mg) {f : Addr} {fd : FuncData} (F : FnP K "_law_deed" "_law_deed" st__law_deed [] f fd) (G__law_off : Kn P w K mg base 1 "_law_off" ["_law_d", "_law_most"] [] (spOf (Wv P w K CA) 2 ev__law_off)) (G__law_files : Kn P w K mg base 3 "_law_files" ["_law_d", "_law_few"] [] (spOf (Wv P w K CA) 2 ev__law_files)) (G__law_some : Kn P w K mg base 1 "_law_some" ["_law_few"] [] (spOf (Wv P w K CA) 1 ev__law_some)) (G__law_mixed : Kn P w K mg base 2 "_law_mixed" ["_law_d", "_law_row"] [] (spOf (Wv P w K CA) 2 ev__law_mixed))  : FnOk P w K mg base CX0 4 f fd ["_law_d", "_law_few"] (spOf (Wv P w K CA) 2 ev__law_deed) := by
  have sc := sc__law_deed
  refine fn_ok F sc fun cdv A outer s H E hr => ⟨t__law_deed P w K CA, ?_, sim__law_deed⟩
  exact (pss_cons (ps_set (i := 2) sc.nd rfl (by first | exact .inl rfl | exact .inr rfl) (pe_kn G__law_off (hr.mono (by omega)) (by rfl) (pa_cons (pv 0) (pa_cons pe_int pa_nil)))) (pss_cons (ps_if (pt_cmpR op_lt (pv 2) pe_int (nomark _)) (pss_one (ps_ret (pe_tup (pa_cons pe_str (pa_cons (pe_kn G__law_files (hr.mono (by omega)) (by rfl) (pa_cons (pv 0) (pa_cons (pv 1) pa_nil))) pa_nil))))) pss_nil) (pss_cons (ps_set (i := 3) sc.nd rfl (by first | exact .inl rfl | exact .inr rfl) (pe_ixA (hu_of hr) (pe_lst (pa_cons (pe_kn G__law_off (hr.mono (by omega)) (by rfl) (pa_cons (pv 0) (pa_cons pe_int pa_nil))) (pa_cons (pe_ixA (hu_of hr) (pe_lst (pa_cons pe_int (pa_cons (pe_kn G__law_off (hr.mono (by omega)) (by rfl) (pa_cons (pv 0) (pa_cons pe_int pa_nil))) pa_nil))) (pe_kn G__law_off (hr.mono (by omega)) (by rfl) (pa_cons (pv 0) (pa_cons pe_int pa_nil))) (fun _ _ => rfl)) pa_nil))) (pe_callTy call_int1 (by rfl) T.b_int bb_int (pa_cons (pe_cmpR (op_eqD hr.units) (pe_kn G__law_off (hr.mono (by omega)) (by rfl) (pa_cons (pv 0) (pa_cons pe_int pa_nil))) pe_int (nomark _)) pa_nil)) (fun _ _ => rfl))) (pss_cons (ps_if (pt_cmpR op_lt (pv 2) pe_int (nomark _)) (pss_one (ps_ret (pe_tup (pa_cons pe_str (pa_cons (pe_callTy call_tuple_of (by rfl) T.b_tuple bb_tuple (pa_cons (pe_lc (own := [("_law_one", 4)]) rfl sc.nd (pi_seq (pe_kn G__law_files (hr.mono (by omega)) (by rfl) (pa_cons (pv 0) (pa_cons (pv 1) pa_nil)))) (blkOk_by (by kernel_rfl)) (fun _ _ _ _ _ => (pg_name (i := 4) sc.nd rfl (by first | exact .inl rfl | exact .inr rfl))) (fun _ _ _ _ _ => pts_nil) (fun _ _ _ _ _ => (pe_tup (pa_cons (pv 4) (pa_cons (pe_op op_addA (pe_kn G__law_off (hr.mono (by omega)) (by rfl) (pa_cons (pv 0) (pa_cons pe_int pa_nil))) (pe_op op_mod (pv 3) pe_int)) pa_nil))))) pa_nil)) pa_nil))))) pss_nil) (pss_cons (ps_if (PW.pt (pw_or (pt_cmpR op_lt (pv 2) pe_int (nomark _)) (pw_or1 (pt_cmpR op_lt (pv 1) pe_int (nomark _))))) (pss_one (ps_ret (pe_tup (pa_cons pe_str (pa_cons (pe_ixA (hu_of hr) (pe_kn G__law_some (hr.mono (by omega)) (by rfl) (pa_cons (pv 1) pa_nil)) (pe_kn G__law_off (hr.mono (by omega)) (by rfl) (pa_cons (pv 0) (pa_cons (pv 1) pa_nil))) (fun _ _ => rfl)) (pa_cons (pe_ixA (hu_of hr) (pe_lst (pa_cons (pe_op op_addA pe_int (pe_kn G__law_off (hr.mono (by omega)) (by rfl) (pa_cons (pv 0) (pa_cons pe_int pa_nil)))) (pa_cons (pv 3) pa_nil))) (pe_callTy call_int1 (by rfl) T.b_int bb_int (pa_cons (pe_cmpR (op_eqD hr.units) (pe_kn G__law_off (hr.mono (by omega)) (by rfl) (pa_cons (pv 0) (pa_cons pe_int pa_nil))) pe_int (nomark _)) pa_nil)) (fun _ _ => rfl)) pa_nil)))))) pss_nil) (pss_cons (ps_asg (pe_slice sl_any (pe_kn G__law_mixed (hr.mono (by omega)) (by rfl) (pa_cons (pv 0) (pa_cons (pe_kn G__law_some (hr.mono (by omega)) (by rfl) (pa_cons (pv 1) pa_nil)) pa_nil))) po_none (po_some pe_int)) (pg_unp (is := [4, 5]) (by rfl) (pgs_cons (pg_name (i := 4) sc.nd rfl (by first | exact .inl rfl | exact .inr rfl)) (pgs_cons (pg_name (i := 5) sc.nd rfl (by first | exact .inl rfl | exact .inr rfl)) pgs_nil)))) (pss_one (ps_ret (pe_tup (pa_cons pe_str (pa_cons (pv 4) (pa_cons (pv 5) (pa_cons (pe_ixA (hu_of hr) (pe_lst (pa_cons (pe_kn G__law_off (hr.mono (by omega)) (by rfl) (pa_cons (pv 0) (pa_cons pe_int pa_nil))) (pa_cons (pv 3) pa_nil))) (pe_callTy call_int1 (by rfl) T.b_int bb_int (pa_cons (pe_cmpR (op_eqD hr.units) (pe_kn G__law_off (hr.mono (by omega)) (by rfl) (pa_cons (pv 0) (pa_cons pe_int pa_nil))) pe_int (nomark _)) pa_nil)) (fun _ _ => rfl)) pa_nil)))))))))))))
abbrev st__law_done : Stmt := top 32
def bd__law_done_1 : Sx := (sSetV 2 (eVar 4) (eVar 5))
def bo__law_done : Sx := (sSeq (sAsg 2 (eBlt gList [(eVar 0)])) (sSeq (sIf (eBin gEq (eBin gIx (eVar 1) (eLit (.int 0))) (eLit (.str "look"))) (sRet (eTup [(eBlt gTuple [(eComp (fSeq (eBin gIx (eVar 1) (eLit (.int 1)))) (tgName 4) [4] eTrue (eBin gIx (eVar 2) (eVar 4)))]), (eVar 0)])) sNil) (sSeq (sIf (eBin gEq (eBin gIx (eVar 1) (eLit (.int 0))) (eLit (.str "put"))) (sSeq (sAsg 3 (eBlt gTuple [(eComp (fSeq (eBin gIx (eVar 1) (eLit (.int 1)))) (tgTup [4, 5]) [4, 5] eTrue (eBin gIx (eVar 2) (eVar 4)))])) (sSeq (sFor (fSeq (eBin gIx (eVar 1) (eLit (.int 1)))) (tgTup [4, 5]) bd__law_done_1) (sRet (eTup [(eVar 3), (eBlt gTuple [(eVar 2)])])))) sNil) (sSeq (sIf (eBin gEq (eBin gIx (eVar 1) (eLit (.int 0))) (eLit (.str "add"))) (sSeq (sSetV 2 (eBin gIx (eVar 1) (eLit (.int 1))) (eBin gMod (eBin gAdd (eBin gIx (eVar 2) (eBin gIx (eVar 1) (eLit (.int 1)))) (eBin gIx (eVar 1) (eLit (.int 2)))) (eLit (.int 1000)))) (sRet (eTup [(eBin gIx (eVar 2) (eBin gIx (eVar 1) (eLit (.int 1)))), (eBlt gTuple [(eVar 2)])]))) sNil) (sSeq (sIf (eOr (eBin gGt (eBin gIx (eVar 1) (eLit (.int 3))) (eBin gIx (eVar 2) (eBin gIx (eVar 1) (eLit (.int 1))))) (eBin gGt (eBin gAdd (eBin gIx (eVar 2) (eBin gIx (eVar 1) (eLit (.int 2)))) (eBin gIx (eVar 1) (eLit (.int 3)))) (eLit (.int 999)))) (sRet (eTup [(eLit (.bl false)), (eVar 0)])) sNil) (sSeq (sSetV 2 (eBin gIx (eVar 1) (eLit (.int 1))) (eBin Ev.gSub (eBin gIx (eVar 2) (eBin gIx (eVar 1) (eLit (.int 1)))) (eBin gIx (eVar 1) (eLit (.int 3))))) (sSeq (sSetV 2 (eBin gIx (eVar 1) (eLit (.int 2))) (eBin gAdd (eBin gIx (eVar 2) (eBin gIx (eVar 1) (eLit (.int 2)))) (eBin gIx (eVar 1) (eLit (.int 3))))) (sRet (eTup [(eLit (.bl true)), (eBlt gTuple [(eVar 2)])])))))))))
def ev__law_done : Ru := runOf 6 bo__law_done
theorem sc__law_done : FnScope ["_law_worths", "_law_deed_here", "_law_row", "_law_old", "_law_one", "_law_worth"] ["_law_worths", "_law_deed_here"] (defScope st__law_done) := ⟨rfl, rfl, rfl, by decide +kernel, rfl, by decide +kernel, by decide +kernel⟩
def t__law_done (P : Program) (w : World) (K : PySem.W.Frag) (CA : Nat → Addr) : TS := (tSeq (tAsg (tCB (rListOf K) (tCons (tVar 0) tNil)) (gName 2)) (tSeq (tIfS (tTest (tOp (rEqD K) (tIxA K (tVar 1) (tC (.int 0))) (tC (.str "look")))) (tRet (tTup (tCons (tCB (rTupOf K) (tCons (tLc (iSeq K (tIxA K (tVar 1) (tC (.int 1)))) (gName 4) tYes (tIxA K (tVar 2) (tVar 4)) [4]) tNil)) (tCons (tVar 0) tNil)))) tNext) (tSeq (tIfS (tTest (tOp (rEqD K) (tIxA K (tVar 1) (tC (.int 0))) (tC (.str "put")))) (tSeq (tAsg (tCB (rTupOf K) (tCons (tLc (iSeq K (tIxA K (tVar 1) (tC (.int 1)))) (gTup K 2 (gNames [4, 5])) tYes (tIxA K (tVar 2) (tVar 4)) [4, 5]) tNil)) (gName 3)) (tSeq (tFor (iSeq K (tIxA K (tVar 1) (tC (.int 1)))) (gTup K 2 (gNames [4, 5])) (tSet (tVar 2) (tVar 4) (tVar 5))) (tRet (tTup (tCons (tVar 3) (tCons (tCB (rTupOf K) (tCons (tVar 2) tNil)) tNil)))))) tNext) (tSeq (tIfS (tTest (tOp (rEqD K) (tIxA K (tVar 1) (tC (.int 0))) (tC (.str "add")))) (tSeq (tSet (tVar 2) (tIxA K (tVar 1) (tC (.int 1))) (tOp rModI (tOp (rAddA K) (tIxA K (tVar 2) (tIxA K (tVar 1) (tC (.int 1)))) (tIxA K (tVar 1) (tC (.int 2)))) (tC (.int 1000)))) (tRet (tTup (tCons (tIxA K (tVar 2) (tIxA K (tVar 1) (tC (.int 1)))) (tCons (tCB (rTupOf K) (tCons (tVar 2) tNil)) tNil))))) tNext) (tSeq (tIfS (tOr (tTest (tOp rGtI (tIxA K (tVar 1) (tC (.int 3))) (tIxA K (tVar 2) (tIxA K (tVar 1) (tC (.int 1)))))) (tTest (tOp rGtI (tOp (rAddA K) (tIxA K (tVar 2) (tIxA K (tVar 1) (tC (.int 2)))) (tIxA K (tVar 1) (tC (.int 3)))) (tC (.int 999))))) (tRet (tTup (tCons (tC (.bl false)) (tCons (tVar 0) tNil)))) tNext) (tSeq (tSet (tVar 2) (tIxA K (tVar 1) (tC (.int 1))) (tOp rSubI (tIxA K (tVar 2) (tIxA K (tVar 1) (tC (.int 1)))) (tIxA K (tVar 1) (tC (.int 3))))) (tSeq (tSet (tVar 2) (tIxA K (tVar 1) (tC (.int 2))) (tOp (rAddA K) (tIxA K (tVar 2) (tIxA K (tVar 1) (tC (.int 2)))) (tIxA K (tVar 1) (tC (.int 3))))) (tRet (tTup (tCons (tC (.bl true)) (tCons (tCB (rTupOf K) (tCons (tVar 2) tNil)) tNil)))))))))))
theorem sim__law_done : SimS (Wv P w K CA) (t__law_done P w K CA) (bo__law_done) := (simS_seq (simS_asg (sim_blt (simA_cons sim_var simA_nil) sim_list)) (simS_seq (simS_if (simT_test (sim_bin (sim_ix sim_var sim_int) sim_str sim_eq)) (simS_ret (sim_tup (simA_cons (sim_blt (simA_cons (sim_comp (js := [4]) (vs := [4]) (simI_seq (sim_ix sim_var sim_int)) simG_name (by decide) simT_yes (sim_ix sim_var sim_var)) simA_nil) sim_tuple) (simA_cons sim_var simA_nil)))) simS_nil) (simS_seq (simS_if (simT_test (sim_bin (sim_ix sim_var sim_int) sim_str sim_eq)) (simS_seq (simS_asg (sim_blt (simA_cons (sim_comp (js := [4, 5]) (vs := [4, 5]) (simI_seq (sim_ix sim_var sim_int)) simG_tup (by decide) simT_yes (sim_ix sim_var sim_var)) simA_nil) sim_tuple)) (simS_seq (simS_for (simI_seq (sim_ix sim_var sim_int)) (tg_tup (is := [4, 5])) (simS_setV sim_var sim_var)) (simS_ret (sim_tup (simA_cons sim_var (simA_cons (sim_blt (simA_cons sim_var simA_nil) sim_tuple) simA_nil)))))) simS_nil) (simS_seq (simS_if (simT_test (sim_bin (sim_ix sim_var sim_int) sim_str sim_eq)) (simS_seq (simS_setV (sim_ix sim_var sim_int) (sim_bin (sim_bin (sim_ix sim_var (sim_ix sim_var sim_int)) (sim_ix sim_var sim_int) sim_add) sim_int sim_mod)) (simS_ret (sim_tup (simA_cons (sim_ix sim_var (sim_ix sim_var sim_int)) (simA_cons (sim_blt (simA_cons sim_var simA_nil) sim_tuple) simA_nil))))) simS_nil) (simS_seq (simS_if (simT_or (simT_test (sim_bin (sim_ix sim_var sim_int) (sim_ix sim_var (sim_ix sim_var sim_int)) sim_gt)) (simT_test (sim_bin (sim_bin (sim_ix sim_var (sim_ix sim_var sim_int)) (sim_ix sim_var sim_int) sim_add) sim_int sim_gt))) (simS_ret (sim_tup (simA_cons sim_bl (simA_cons sim_var simA_nil)))) simS_nil) (simS_seq (simS_setV (sim_ix sim_var sim_int) (sim_bin (sim_ix sim_var (sim_ix sim_var sim_int)) (sim_ix sim_var sim_int) sim_sub)) (simS_seq (simS_setV (sim_ix sim_var sim_int) (sim_bin (sim_ix sim_var (sim_ix sim_var sim_int)) (sim_ix sim_var sim_int) sim_add)) (simS_ret (sim_tup (simA_cons sim_bl (simA_cons (sim_blt (simA_cons sim_var simA_nil) sim_tuple) simA_nil)))))))))))
theorem ok__law_done (T : Fx K mg) {f : Addr} {fd : FuncData} (F : FnP K "_law_done" "_law_done" st__law_done [] f fd)   : FnOk P w K mg base CX0 1 f fd ["_law_worths", "_law_deed_here"] (spOf (Wv P w K CA) 2 ev__law_done) := by
  have sc := sc__law_done
  refine fn_ok F sc fun cdv A outer s H E hr => ⟨t__law_done P w K CA, ?_, sim__law_done⟩
  exact (pss_cons (ps_set (i := 2) sc.nd rfl (by first | exact .inl rfl | exact .inr rfl) (pe_callTy call_list_of (by rfl) T.b_list bb_list (pa_cons (pv 0) pa_nil))) (pss_cons (ps_if (pt_cmpR (op_eqD hr.units) (pe_ixA (hu_of hr) (pv 1) pe_int (fun _ _ => rfl)) pe_str (nomark _)) (pss_one (ps_ret (pe_tup (pa_cons (pe_callTy call_tuple_of (by rfl) T.b_tuple bb_tuple (pa_cons (pe_lc (own := [("_law_one", 4)]) rfl sc.nd (pi_seq (pe_ixA (hu_of hr) (pv 1) pe_int (fun _ _ => rfl))) (blkOk_by (by kernel_rfl)) (fun _ _ _ _ _ => (pg_name (i := 4) sc.nd rfl (by first | exact .inl rfl | exact .inr rfl))) (fun _ _ _ _ _ => pts_nil) (fun _ _ _ _ _ => (pe_ixA (hu_of hr) (pv 2) (pv 4) (fun _ _ => rfl)))) pa_nil)) (pa_cons (pv 0) pa_nil))))) pss_nil) (pss_cons (ps_if (pt_cmpR (op_eqD hr.units) (pe_ixA (hu_of hr) (pv 1) pe_int (fun _ _ => rfl)) pe_str (nomark _)) (pss_cons (ps_set (i := 3) sc.nd rfl (by first | exact .inl rfl | exact .inr rfl) (pe_callTy call_tuple_of (by rfl) T.b_tuple bb_tuple (pa_cons (pe_lc (own := [("_law_one", 4), ("_law_worth", 5)]) rfl sc.nd (pi_seq (pe_ixA (hu_of hr) (pv 1) pe_int (fun _ _ => rfl))) (blkOk_by (by kernel_rfl)) (fun _ _ _ _ _ => (pg_tup (by rfl) (pgs_cons (pg_name (i := 4) sc.nd rfl (by first | exact .inl rfl | exact .inr rfl)) (pgs_cons (pg_name (i := 5) sc.nd rfl (by first | exact .inl rfl | exact .inr rfl)) pgs_nil)))) (fun _ _ _ _ _ => pts_nil) (fun _ _ _ _ _ => (pe_ixA (hu_of hr) (pv 2) (pv 4) (fun _ _ => rfl)))) pa_nil))) (pss_cons (ps_for PassesOwn.never rfl (pi_seq (pe_ixA (hu_of hr) (pv 1) pe_int (fun _ _ => rfl))) (pg_tup (by rfl) (pgs_cons (pg_name (i := 4) sc.nd rfl (by first | exact .inl rfl | exact .inr rfl)) (pgs_cons (pg_name (i := 5) sc.nd rfl (by first | exact .inl rfl | exact .inr rfl)) pgs_nil))) (pss_one (ps_set3 (u16 hr) (pv 2) (pv 4) (pv 5)))) (pss_one (ps_ret (pe_tup (pa_cons (pv 3) (pa_cons (pe_callTy call_tuple_of (by rfl) T.b_tuple bb_tuple (pa_cons (pv 2) pa_nil)) pa_nil))))))) pss_nil) (pss_cons (ps_if (pt_cmpR (op_eqD hr.units) (pe_ixA (hu_of hr) (pv 1) pe_int (fun _ _ => rfl)) pe_str (nomark _)) (pss_cons (ps_set3 (u16 hr) (pv 2) (pe_ixA (hu_of hr) (pv 1) pe_int (fun _ _ => rfl)) (pe_op op_mod (pe_op op_addA (pe_ixA (hu_of hr) (pv 2) (pe_ixA (hu_of hr) (pv 1) pe_int (fun _ _ => rfl)) (fun _ _ => rfl)) (pe_ixA (hu_of hr) (pv 1) pe_int (fun _ _ => rfl))) pe_int)) (pss_one (ps_ret (pe_tup (pa_cons (pe_ixA (hu_of hr) (pv 2) (pe_ixA (hu_of hr) (pv 1) pe_int (fun _ _ => rfl)) (fun _ _ => rfl)) (pa_cons (pe_callTy call_tuple_of (by rfl) T.b_tuple bb_tuple (pa_cons (pv 2) pa_nil)) pa_nil)))))) pss_nil) (pss_cons (ps_if (PW.pt (pw_or (pt_cmpR op_gt (pe_ixA (hu_of hr) (pv 1) pe_int (fun _ _ => rfl)) (pe_ixA (hu_of hr) (pv 2) (pe_ixA (hu_of hr) (pv 1) pe_int (fun _ _ => rfl)) (fun _ _ => rfl)) (nomark _)) (pw_or1 (pt_cmpR op_gt (pe_op op_addA (pe_ixA (hu_of hr) (pv 2) (pe_ixA (hu_of hr) (pv 1) pe_int (fun _ _ => rfl)) (fun _ _ => rfl)) (pe_ixA (hu_of hr) (pv 1) pe_int (fun _ _ => rfl))) pe_int (nomark _))))) (pss_one (ps_ret (pe_tup (pa_cons pe_bl (pa_cons (pv 0) pa_nil))))) pss_nil) (pss_cons (ps_set3 (u16 hr) (pv 2) (pe_ixA (hu_of hr) (pv 1) pe_int (fun _ _ => rfl)) (pe_op op_sub (pe_ixA (hu_of hr) (pv 2) (pe_ixA (hu_of hr) (pv 1) pe_int (fun _ _ => rfl)) (fun _ _ => rfl)) (pe_ixA (hu_of hr) (pv 1) pe_int (fun _ _ => rfl)))) (pss_cons (ps_set3 (u16 hr) (pv 2) (pe_ixA (hu_of hr) (pv 1) pe_int (fun _ _ => rfl)) (pe_op op_addA (pe_ixA (hu_of hr) (pv 2) (pe_ixA (hu_of hr) (pv 1) pe_int (fun _ _ => rfl)) (fun _ _ => rfl)) (pe_ixA (hu_of hr) (pv 1) pe_int (fun _ _ => rfl)))) (pss_one (ps_ret (pe_tup (pa_cons pe_bl (pa_cons (pe_callTy call_tuple_of (by rfl) T.b_tuple bb_tuple (pa_cons (pv 2) pa_nil)) pa_nil))))))))))))
abbrev st__law_history : Stmt := top 35
def bd__law_history_1 : Sx := (sSeq (sAsg 10 (eCall ev__law_off [] [(eVar 0), (eVar 2)])) (sSeq (sAsg 11 (eCall ev__law_deed [] [(eVar 0), (eLit (.int 3))])) (sSeq (sAsg 7 (eBin gAdd (eBin gAdd (eVar 7) (eLit (.int 1))) (eCall ev__law_off [] [(eVar 0), (eLit (.int 2))]))) (sSeq (sAsg 12 (eBlt gMax2 [(eBin gAdd (eBin gIx (eVar 5) (eVar 10)) (eLit (.int 1))), (eBin Ev.gSub (eVar 7) (eCall ev__law_off [] [(eVar 0), (eLit (.int 6))]))])) (sSeq (sAsg 13 (eVar 6)) (sSeq (sUnp [15, 6] (eCall ev__law_done [] [(eVar 6), (eVar 11)])) (sSeq (sIf (eAnd (eUn gNot (eVar 8)) (eBin gEq (eCall ev__law_off [] [(eVar 0), (eLit (.int 2))]) (eLit (.int 0)))) (sAsg 15 (eBin gIx (eCall ev__law_done [] [(eIf (eBin gNe (eBin gIx (eVar 11) (eLit (.int 0))) (eLit (.str "look"))) (eVar 13) (eBin gMul (eTup [(eLit (.int 0))]) (eLit (.int 10)))), (eVar 11)]) (eLit (.int 0)))) sNil) (sSeq (sSetV 5 (eVar 10) (eBlt gMax2 [(eBin gAdd (eVar 12) (eLit (.int 1))), (eBin gAdd (eVar 7) (eCall ev__law_off [] [(eVar 0), (eLit (.int 6))]))])) (sSeq (sAsg 14 (eTup [(eBin gAdd (eVar 3) (eVar 10)), (eVar 11), (eVar 12), (eBin gIx (eVar 5) (eVar 10)), (eVar 15)])) (sSeq (sIf (eBin gEq (eCall ev__law_off [] [(eVar 0), (eLit (.int 6))]) (eLit (.int 0))) (sSeq (sSetV 5 (eVar 10) (eVar 12)) (sAsg 14 (eTup [(eBin gAdd (eVar 3) (eVar 10)), (eVar 11), (eVar 12), (eLit (.non)), (eLit (.non))]))) sNil) (sAppV 4 (eVar 14))))))))))))
def bo__law_history : Sx := (sSeq (sAsg 2 (eBin gAdd (eLit (.int 1)) (eCall ev__law_off [] [(eVar 0), (eLit (.int 3))]))) (sSeq (sAsg 3 (ePick [(eLit (.int 0)), (eLit (.int 0)), (eLit (.int 97))] (eCall ev__law_off [] [(eVar 0), (eLit (.int 3))]))) (sSeq (sAsg 4 (eLst [])) (sSeq (sAsg 5 (eBin gMul (eLst [(eLit (.int 0))]) (eVar 2))) (sSeq (sAsg 6 (eBin gMul (eTup [(eLit (.int 0))]) (eLit (.int 10)))) (sSeq (sAsg 7 (eLit (.int 0))) (sSeq (sAsg 8 (eBin gGt (eCall ev__law_off [] [(eVar 0), (eLit (.int 3))]) (eLit (.int 0)))) (sSeq (sFor (fRange (eCall ev__law_off [] [(eVar 0), (eBin gAdd (eVar 1) (eLit (.int 1)))])) (tgName 9) bd__law_history_1) (sRetVar 4)))))))))
def ev__law_history : Ru := runOf 16 bo__law_history
theorem sc__law_history : FnScope ["_law_d", "_law_most", "_law_many", "_law_first", "_law_rows", "_law_ends", "_law_worths", "_law_moment", "_law_honest", "_law_turn", "_law_user", "_law_deed_here", "_law_begin", "_law_old", "_law_row", "_law_answer"] ["_law_d", "_law_most"] (defScope st__law_history) := ⟨rfl, rfl, rfl, by decide +kernel, rfl, by decide +kernel, by decide +kernel⟩
def t__law_history (P : Program) (w : World) (K : PySem.W.Frag) (CA : Nat → Addr) : TS := (tSeq (tAsg (tOp (rAddA K) (tC (.int 1)) (tCall (spOf (Wv P w K CA) 2 ev__law_off) [] L2.E0 (tCons (tVar 0) (tCons (tC (.int 3)) tNil)))) (gName 2)) (tSeq (tAsg (tIxA K (tLst (tCons (tC (.int 0)) (tCons (tC (.int 0)) (tCons (tC (.int 97)) tNil)))) (tCall (spOf (Wv P w K CA) 2 ev__law_off) [] L2.E0 (tCons (tVar 0) (tCons (tC (.int 3)) tNil)))) (gName 3)) (tSeq (tAsg (tLst tNil) (gName 4)) (tSeq (tAsg (tOp (rMulA K) (tLst (tCons (tC (.int 0)) tNil)) (tVar 2)) (gName 5)) (tSeq (tAsg (tOp (rMulA K) (tTup (tCons (tC (.int 0)) tNil)) (tC (.int 10))) (gName 6)) (tSeq (tAsg (tC (.int 0)) (gName 7)) (tSeq (tAsg (tOp rGtI (tCall (spOf (Wv P w K CA) 2 ev__law_off) [] L2.E0 (tCons (tVar 0) (tCons (tC (.int 3)) tNil))) (tC (.int 0))) (gName 8)) (tSeq (tFor (iRng1 (tCons (tCall (spOf (Wv P w K CA) 2 ev__law_off) [] L2.E0 (tCons (tVar 0) (tCons (tOp (rAddA K) (tVar 1) (tC (.int 1))) tNil))) tNil)) (gName 9) (tSeq (tAsg (tCall (spOf (Wv P w K CA) 2 ev__law_off) [] L2.E0 (tCons (tVar 0) (tCons (tVar 2) tNil))) (gName 10)) (tSeq (tAsg (tCall (spOf (Wv P w K CA) 2 ev__law_deed) [] L2.E0 (tCons (tVar 0) (tCons (tC (.int 3)) tNil))) (gName 11)) (tSeq (tAsg (tOp (rAddA K) (tOp (rAddA K) (tVar 7) (tC (.int 1))) (tCall (spOf (Wv P w K CA) 2 ev__law_off) [] L2.E0 (tCons (tVar 0) (tCons (tC (.int 2)) tNil)))) (gName 7)) (tSeq (tAsg (tCB rMax2I (tCons (tOp (rAddA K) (tIxA K (tVar 5) (tVar 10)) (tC (.int 1))) (tCons (tOp rSubI (tVar 7) (tCall (spOf (Wv P w K CA) 2 ev__law_off) [] L2.E0 (tCons (tVar 0) (tCons (tC (.int 6)) tNil)))) tNil))) (gName 12)) (tSeq (tAsg (tVar 6) (gName 13)) (tSeq (tAsg (tCall (spOf (Wv P w K CA) 2 ev__law_done) [] L2.E0 (tCons (tVar 6) (tCons (tVar 11) tNil))) (gUnp K [15, 6])) (tSeq (tIfS (tAnd (tNot (tB (tVar 8))) (tTest (tOp (rEqD K) (tCall (spOf (Wv P w K CA) 2 ev__law_off) [] L2.E0 (tCons (tVar 0) (tCons (tC (.int 2)) tNil))) (tC (.int 0))))) (tAsg (tIxA K (tCall (spOf (Wv P w K CA) 2 ev__law_done) [] L2.E0 (tCons (tIf (tTest (tOp (rNeD K) (tIxA K (tVar 11) (tC (.int 0))) (tC (.str "look")))) (tVar 13) (tOp (rMulA K) (tTup (tCons (tC (.int 0)) tNil)) (tC (.int 10)))) (tCons (tVar 11) tNil))) (tC (.int 0))) (gName 15)) tNext) (tSeq (tSet (tVar 5) (tVar 10) (tCB rMax2I (tCons (tOp (rAddA K) (tVar 12) (tC (.int 1))) (tCons (tOp (rAddA K) (tVar 7) (tCall (spOf (Wv P w K CA) 2 ev__law_off) [] L2.E0 (tCons (tVar 0) (tCons (tC (.int 6)) tNil)))) tNil)))) (tSeq (tAsg (tTup (tCons (tOp (rAddA K) (tVar 3) (tVar 10)) (tCons (tVar 11) (tCons (tVar 12) (tCons (tIxA K (tVar 5) (tVar 10)) (tCons (tVar 15) tNil)))))) (gName 14)) (tSeq (tIfS (tTest (tOp (rEqD K) (tCall (spOf (Wv P w K CA) 2 ev__law_off) [] L2.E0 (tCons (tVar 0) (tCons (tC (.int 6)) tNil))) (tC (.int 0)))) (tSeq (tSet (tVar 5) (tVar 10) (tVar 12)) (tAsg (tTup (tCons (tOp (rAddA K) (tVar 3) (tVar 10)) (tCons (tVar 11) (tCons (tVar 12) (tCons (tC (.non)) (tCons (tC (.non)) tNil)))))) (gName 14))) tNext) (tDrop (tApp K (tVar 4) (tVar 14)))))))))))))) (tRet (tVar 4))))))))))
theorem sim__law_history : SimS (Wv P w K CA) (t__law_history P w K CA) (bo__law_history) := (simS_seq (simS_asg (sim_bin sim_int (sim_call (dfl := []) (simA_cons sim_var (simA_cons sim_int simA_nil)) rfl rfl) sim_add)) (simS_seq (simS_asg (sim_pick (simA_cons sim_int (simA_cons sim_int (simA_cons sim_int simA_nil))) (sim_call (dfl := []) (simA_cons sim_var (simA_cons sim_int simA_nil)) rfl rfl))) (simS_seq (simS_asg (sim_lst simA_nil)) (simS_seq (simS_asg (sim_bin (sim_lst (simA_cons sim_int simA_nil)) sim_var sim_mul)) (simS_seq (simS_asg (sim_bin (sim_tup (simA_cons sim_int simA_nil)) sim_int sim_mul)) (simS_seq (simS_asg sim_int) (simS_seq (simS_asg (sim_bin (sim_call (dfl := []) (simA_cons sim_var (simA_cons sim_int simA_nil)) rfl rfl) sim_int sim_gt)) (simS_seq (simS_for (simI_range (sim_call (dfl := []) (simA_cons sim_var (simA_cons (sim_bin sim_var sim_int sim_add) simA_nil)) rfl rfl)) tg_name (simS_seq (simS_asg (sim_call (dfl := []) (simA_cons sim_var (simA_cons sim_var simA_nil)) rfl rfl)) (simS_seq (simS_asg (sim_call (dfl := []) (simA_cons sim_var (simA_cons sim_int simA_nil)) rfl rfl)) (simS_seq (simS_asg (sim_bin (sim_bin sim_var sim_int sim_add) (sim_call (dfl := []) (simA_cons sim_var (simA_cons sim_int simA_nil)) rfl rfl) sim_add)) (simS_seq (simS_asg (sim_blt (simA_cons (sim_bin (sim_ix sim_var sim_var) sim_int sim_add) (simA_cons (sim_bin sim_var (sim_call (dfl := []) (simA_cons sim_var (simA_cons sim_int simA_nil)) rfl rfl) sim_sub) simA_nil)) sim_max2)) (simS_seq (simS_asg sim_var) (simS_seq (simS_unp (sim_call (dfl := []) (simA_cons sim_var (simA_cons sim_var simA_nil)) rfl rfl)) (simS_seq (simS_if (simT_and (simT_not (simT_of sim_var)) (simT_test (sim_bin (sim_call (dfl := []) (simA_cons sim_var (simA_cons sim_int simA_nil)) rfl rfl) sim_int sim_eq))) (simS_asg (sim_ix (sim_call (dfl := []) (simA_cons (sim_if (simT_test (sim_bin (sim_ix sim_var sim_int) sim_str sim_ne)) sim_var (sim_bin (sim_tup (simA_cons sim_int simA_nil)) sim_int sim_mul)) (simA_cons sim_var simA_nil)) rfl rfl) sim_int)) simS_nil) (simS_seq (simS_setV sim_var (sim_blt (simA_cons (sim_bin sim_var sim_int sim_add) (simA_cons (sim_bin sim_var (sim_call (dfl := []) (simA_cons sim_var (simA_cons sim_int simA_nil)) rfl rfl) sim_add) simA_nil)) sim_max2)) (simS_seq (simS_asg (sim_tup (simA_cons (sim_bin sim_var sim_var sim_add) (simA_cons sim_var (simA_cons sim_var (simA_cons (sim_ix sim_var sim_var) (simA_cons sim_var simA_nil))))))) (simS_seq (simS_if (simT_test (sim_bin (sim_call (dfl := []) (simA_cons sim_var (simA_cons sim_int simA_nil)) rfl rfl) sim_int sim_eq)) (simS_seq (simS_setV sim_var sim_var) (simS_asg (sim_tup (simA_cons (sim_bin sim_var sim_var sim_add) (simA_cons sim_var (simA_cons sim_var (simA_cons sim_non (simA_cons sim_non simA_nil)))))))) simS_nil) (simS_appV sim_var)))))))))))) simS_retVar))))))))
theorem ok__law_history (T : Fx K mg) {f : Addr} {fd : FuncData} (F : FnP K "_law_history" "_law_history" st__law_history [] f fd) (G__law_off : Kn P w K mg base 1 "_law_off" ["_law_d", "_law_most"] [] (spOf (Wv P w K CA) 2 ev__law_off)) (G__law_deed : Kn P w K mg base 4 "_law_deed" ["_law_d", "_law_few"] [] (spOf (Wv P w K CA) 2 ev__law_deed)) (G__law_done : Kn P w K mg base 1 "_law_done" ["_law_worths", "_law_deed_here"] [] (spOf (Wv P w K CA) 2 ev__law_done))  : FnOk P w K mg base CX0 5 f fd ["_law_d", "_law_most"] (spOf (Wv P w K CA) 2 ev__law_history) := by
  have sc := sc__law_history
  refine fn_ok F sc fun cdv A outer s H E hr => ⟨t__law_history P w K CA, ?_, sim__law_history⟩
  exact (pss_cons (ps_set (i := 2) sc.nd rfl (by first | exact .inl rfl | exact .inr rfl) (pe_op op_addA pe_int (pe_kn G__law_off (hr.mono (by omega)) (by rfl) (pa_cons (pv 0) (pa_cons pe_int pa_nil))))) (pss_cons (ps_set (i := 3) sc.nd rfl (by first | exact .inl rfl | exact .inr rfl) (pe_ixA (hu_of hr) (pe_lst (pa_cons pe_int (pa_cons pe_int (pa_cons pe_int pa_nil)))) (pe_kn G__law_off (hr.mono (by omega)) (by rfl) (pa_cons (pv 0) (pa_cons pe_int pa_nil))) (fun _ _ => rfl))) (pss_cons (ps_set (i := 4) sc.nd rfl (by first | exact .inl rfl | exact .inr rfl) (pe_lst pa_nil)) (pss_cons (ps_set (i := 5) sc.nd rfl (by first | exact .inl rfl | exact .inr rfl) (pe_op op_mulA (pe_lst (pa_cons pe_int pa_nil)) (pv 2))) (pss_cons (ps_set (i := 6) sc.nd rfl (by first | exact .inl rfl | exact .inr rfl) (pe_op op_mulA (pe_tup (pa_cons pe_int pa_nil)) pe_int)) (pss_cons (ps_set (i := 7) sc.nd rfl (by first | exact .inl rfl | exact .inr rfl) pe_int) (pss_cons (ps_set (i := 8) sc.nd rfl (by first | exact .inl rfl | exact .inr rfl) (pe_cmpR op_gt (pe_kn G__law_off (hr.mono (by omega)) (by rfl) (pa_cons (pv 0) (pa_cons pe_int pa_nil))) pe_int (nomark _))) (pss_cons (ps_for PassesOwn.never rfl (pi_range1 (by rfl) T.b_range (pa_cons (pe_kn G__law_off (hr.mono (by omega)) (by rfl) (pa_cons (pv 0) (pa_cons (pe_op op_addA (pv 1) pe_int) pa_nil))) pa_nil)) (pg_name (i := 9) sc.nd rfl (by first | exact .inl rfl | exact .inr rfl)) (pss_cons (ps_set (i := 10) sc.nd rfl (by first | exact .inl rfl | exact .inr rfl) (pe_kn G__law_off (hr.mono (by omega)) (by rfl) (pa_cons (pv 0) (pa_cons (pv 2) pa_nil)))) (pss_cons (ps_set (i := 11) sc.nd rfl (by first | exact .inl rfl | exact .inr rfl) (pe_kn G__law_deed (hr.mono (by omega)) (by rfl) (pa_cons (pv 0) (pa_cons pe_int pa_nil)))) (pss_cons (ps_set (i := 7) sc.nd rfl (by first | exact .inl rfl | exact .inr rfl) (pe_op op_addA (pe_op op_addA (pv 7) pe_int) (pe_kn G__law_off (hr.mono (by omega)) (by rfl) (pa_cons (pv 0) (pa_cons pe_int pa_nil))))) (pss_cons (ps_set (i := 12) sc.nd rfl (by first | exact .inl rfl | exact .inr rfl) (pe_callB (call_max2 rfl) (by rfl) T.b_max bb_max (pa_cons (pe_op op_addA (pe_ixA (hu_of hr) (pv 5) (pv 10) (fun _ _ => rfl)) pe_int) (pa_cons (pe_op op_sub (pv 7) (pe_kn G__law_off (hr.mono (by omega)) (by rfl) (pa_cons (pv 0) (pa_cons pe_int pa_nil)))) pa_nil)))) (pss_cons (ps_set (i := 13) sc.nd rfl (by first | exact .inl rfl | exact .inr rfl) (pv 6)) (pss_cons (ps_asg (pe_kn G__law_done (hr.mono (by omega)) (by rfl) (pa_cons (pv 6) (pa_cons (pv 11) pa_nil))) (pg_unp (is := [15, 6]) (by rfl) (pgs_cons (pg_name (i := 15) sc.nd rfl (by first | exact .inl rfl | exact .inr rfl)) (pgs_cons (pg_name (i := 6) sc.nd rfl (by first | exact .inl rfl | exact .inr rfl)) pgs_nil)))) (pss_cons (ps_if (PW.pt (pw_and (pt_not (pt_val (pv 8))) (pw_and1 (pt_cmpR (op_eqD hr.units) (pe_kn G__law_off (hr.mono (by omega)) (by rfl) (pa_cons (pv 0) (pa_cons pe_int pa_nil))) pe_int (nomark _))))) (pss_one (ps_set (i := 15) sc.nd rfl (by first | exact .inl rfl | exact .inr rfl) (pe_ixA (hu_of hr) (pe_kn G__law_done (hr.mono (by omega)) (by rfl) (pa_cons (pe_ifExp (pt_cmpR (op_neD hr.units) (pe_ixA (hu_of hr) (pv 11) pe_int (fun _ _ => rfl)) pe_str (nomark _)) (pv 13) (pe_op op_mulA (pe_tup (pa_cons pe_int pa_nil)) pe_int)) (pa_cons (pv 11) pa_nil))) pe_int (fun _ _ => rfl)))) pss_nil) (pss_cons (ps_set3 (u16 hr) (pv 5) (pv 10) (pe_callB (call_max2 rfl) (by rfl) T.b_max bb_max (pa_cons (pe_op op_addA (pv 12) pe_int) (pa_cons (pe_op op_addA (pv 7) (pe_kn G__law_off (hr.mono (by omega)) (by rfl) (pa_cons (pv 0) (pa_cons pe_int pa_nil)))) pa_nil)))) (pss_cons (ps_set (i := 14) sc.nd rfl (by first | exact .inl rfl | exact .inr rfl) (pe_tup (pa_cons (pe_op op_addA (pv 3) (pv 10)) (pa_cons (pv 11) (pa_cons (pv 12) (pa_cons (pe_ixA (hu_of hr) (pv 5) (pv 10) (fun _ _ => rfl)) (pa_cons (pv 15) pa_nil))))))) (pss_cons (ps_if (pt_cmpR (op_eqD hr.units) (pe_kn G__law_off (hr.mono (by omega)) (by rfl) (pa_cons (pv 0) (pa_cons pe_int pa_nil))) pe_int (nomark _)) (pss_cons (ps_set3 (u16 hr) (pv 5) (pv 10) (pv 12)) (pss_one (ps_set (i := 14) sc.nd rfl (by first | exact .inl rfl | exact .inr rfl) (pe_tup (pa_cons (pe_op op_addA (pv 3) (pv 10)) (pa_cons (pv 11) (pa_cons (pv 12) (pa_cons pe_non (pa_cons pe_non pa_nil))))))))) pss_nil) (pss_one (ps_expr (pe_bm PySem.F.plainAttrs_list PySem.F.slot_list_append PySem.F.type_list_append mt_append (pv 4) (pa_cons (pv 14) pa_nil))))))))))))))) (pss_one (ps_ret (pv 4)))))))))))
abbrev st__law_alike : Stmt := top 28
def bo__law_alike (run : Ru) : Sx := (sSeq (sIf (eUn gIsN (eVar 1)) (sRet (eUn gIsN (eVar 0))) sNil) (sSeq (sIf (eIsi .bool (eVar 1)) (sRet (eAnd (eIsi .bool (eVar 0)) (eBin gEq (eVar 0) (eVar 1)))) sNil) (sSeq (sIf (eIsi .int (eVar 1)) (sRet (eAnd (eIsi .int (eVar 0)) (eAnd (eUn gNot (eIsi .bool (eVar 0))) (eBin gEq (eVar 0) (eVar 1))))) sNil) (sSeq (sIf (eIsi .str (eVar 1)) (sRet (eAnd (eIsi .str (eVar 0)) (eBin gEq (eVar 0) (eVar 1)))) sNil) (sSeq (sIf (eOr (eBin gNe (eIsi .tuple (eVar 1)) (eIsi .tuple (eVar 0))) (eBin gNe (eIsi .list (eVar 1)) (eIsi .list (eVar 0)))) (sRet (eLit (.bl false))) sNil) (sSeq (sIf (eBin gNe (eBlt gLen [(eVar 0)]) (eBlt gLen [(eVar 1)])) (sRet (eLit (.bl false))) sNil) (sRet (eBlt gAll [(eComp (fRange (eBlt gLen [(eVar 1)])) (tgName 2) [2] eTrue (eCall run [] [(eBin gIx (eVar 0) (eVar 2)), (eBin gIx (eVar 1) (eVar 2))]))]))))))))
def ev__law_alike : Nat → Ru
  | 0 => fun _ _ => none
  | n + 1 => runOf 3 (bo__law_alike (ev__law_alike n))
theorem sc__law_alike : FnScope ["_law_found", "_law_due", "_law_k"] ["_law_found", "_law_due"] (defScope st__law_alike) := ⟨rfl, rfl, rfl, by decide +kernel, rfl, by decide +kernel, by decide +kernel⟩
def t__law_alike (P : Program) (w : World) (K : PySem.W.Frag) (CA : Nat → Addr) (run : Ru) : TS := (tSeq (tIfS (tB (tIsN (tVar 1))) (tRet (tIsN (tVar 0))) tNext) (tSeq (tIfS (tB (tCB (rIsi K) (tCons (tVar 1) (tCons (tC (.ty "bool")) tNil)))) (tRet (tAndV (tCB (rIsi K) (tCons (tVar 0) (tCons (tC (.ty "bool")) tNil))) (tOp (rEqD K) (tVar 0) (tVar 1)))) tNext) (tSeq (tIfS (tB (tCB (rIsi K) (tCons (tVar 1) (tCons (tC (.ty "int")) tNil)))) (tRet (tAndV (tCB (rIsi K) (tCons (tVar 0) (tCons (tC (.ty "int")) tNil))) (tAndV (tNotV (tCB (rIsi K) (tCons (tVar 0) (tCons (tC (.ty "bool")) tNil)))) (tOp (rEqD K) (tVar 0) (tVar 1))))) tNext) (tSeq (tIfS (tB (tCB (rIsi K) (tCons (tVar 1) (tCons (tC (.ty "str")) tNil)))) (tRet (tAndV (tCB (rIsi K) (tCons (tVar 0) (tCons (tC (.ty "str")) tNil))) (tOp (rEqD K) (tVar 0) (tVar 1)))) tNext) (tSeq (tIfS (tOr (tTest (tOp (rNeD K) (tCB (rIsi K) (tCons (tVar 1) (tCons (tC (.ty "tuple")) tNil))) (tCB (rIsi K) (tCons (tVar 0) (tCons (tC (.ty "tuple")) tNil))))) (tTest (tOp (rNeD K) (tCB (rIsi K) (tCons (tVar 1) (tCons (tC (.ty "list")) tNil))) (tCB (rIsi K) (tCons (tVar 0) (tCons (tC (.ty "list")) tNil)))))) (tRet (tC (.bl false))) tNext) (tSeq (tIfS (tTest (tOp (rNeD K) (tCB (rLenA K) (tCons (tVar 0) tNil)) (tCB (rLenA K) (tCons (tVar 1) tNil)))) (tRet (tC (.bl false))) tNext) (tRet (tCB (rAll K) (tCons (tLc (iRng1 (tCons (tCB (rLenA K) (tCons (tVar 1) tNil)) tNil)) (gName 2) tYes (tCall (spOf (Wv P w K CA) 2 run) [] L2.E0 (tCons (tIxA K (tVar 0) (tVar 2)) (tCons (tIxA K (tVar 1) (tVar 2)) tNil))) [2]) tNil)))))))))
theorem sim__law_alike (run : Ru) : SimS (Wv P w K CA) (t__law_alike P w K CA run) (bo__law_alike run) := (simS_seq (simS_if (simT_of (sim_isN sim_var)) (simS_ret (sim_isN sim_var)) simS_nil) (simS_seq (simS_if (simT_of (sim_isi (t := .bool) sim_var)) (simS_ret (sim_and (sim_isi (t := .bool) sim_var) (sim_bin sim_var sim_var sim_eq))) simS_nil) (simS_seq (simS_if (simT_of (sim_isi (t := .int) sim_var)) (simS_ret (sim_and (sim_isi (t := .int) sim_var) (sim_and (sim_not (sim_isi (t := .bool) sim_var)) (sim_bin sim_var sim_var sim_eq)))) simS_nil) (simS_seq (simS_if (simT_of (sim_isi (t := .str) sim_var)) (simS_ret (sim_and (sim_isi (t := .str) sim_var) (sim_bin sim_var sim_var sim_eq))) simS_nil) (simS_seq (simS_if (simT_or (simT_test (sim_bin (sim_isi (t := .tuple) sim_var) (sim_isi (t := .tuple) sim_var) sim_ne)) (simT_test (sim_bin (sim_isi (t := .list) sim_var) (sim_isi (t := .list) sim_var) sim_ne))) (simS_ret sim_bl) simS_nil) (simS_seq (simS_if (simT_test (sim_bin (sim_blt (simA_cons sim_var simA_nil) sim_len) (sim_blt (simA_cons sim_var simA_nil) sim_len) sim_ne)) (simS_ret sim_bl) simS_nil) (simS_ret (sim_blt (simA_cons (sim_comp (js := [2]) (vs := [2]) (simI_range (sim_blt (simA_cons sim_var simA_nil) sim_len)) simG_name (by decide) simT_yes (sim_call (dfl := []) (simA_cons (sim_ix sim_var sim_var) (simA_cons (sim_ix sim_var sim_var) simA_nil)) rfl rfl)) simA_nil) sim_all))))))))
theorem ok__law_alike (T : Fx K mg) {f : Addr} {fd : FuncData} (F : FnP K "_law_alike" "_law_alike" st__law_alike [] f fd)  (run : Ru) {n : Nat} (G__law_alike : Kn P w K mg base (1 + n) "_law_alike" ["_law_found", "_law_due"] [] (spOf (Wv P w K CA) 2 run)) : FnOk P w K mg base CX0 (1 + n + 1) f fd ["_law_found", "_law_due"] (spOf (Wv P w K CA) 2 (runOf 3 (bo__law_alike run))) := by
  have sc := sc__law_alike
  refine fn_ok F sc fun cdv A outer s H E hr => ⟨t__law_alike P w K CA run, ?_, sim__law_alike run⟩
  exact (pss_cons (ps_if (pt_cmp (pc_isN (pv 1)) rfl) (pss_one (ps_ret (pe_cmp (pc_isN (pv 0)) rfl))) pss_nil) (pss_cons (ps_if (pt_val (pe_callB call_isi (by rfl) T.b_isinstance bb_isinstance (pa_cons (pv 1) (pa_cons (pe_bltn (by rfl) T.b_bool bb_bool rfl) pa_nil)))) (pss_one (ps_ret (pe_and (pe_callB call_isi (by rfl) T.b_isinstance bb_isinstance (pa_cons (pv 0) (pa_cons (pe_bltn (by rfl) T.b_bool bb_bool rfl) pa_nil))) (pe_one (pe_cmpR (op_eqD hr.units) (pv 0) (pv 1) (nomark _)))))) pss_nil) (pss_cons (ps_if (pt_val (pe_callB call_isi (by rfl) T.b_isinstance bb_isinstance (pa_cons (pv 1) (pa_cons (pe_bltn (by rfl) T.b_int bb_int rfl) pa_nil)))) (pss_one (ps_ret (pe_and (pe_callB call_isi (by rfl) T.b_isinstance bb_isinstance (pa_cons (pv 0) (pa_cons (pe_bltn (by rfl) T.b_int bb_int rfl) pa_nil))) (pe_and (pe_not (pe_callB call_isi (by rfl) T.b_isinstance bb_isinstance (pa_cons (pv 0) (pa_cons (pe_bltn (by rfl) T.b_bool bb_bool rfl) pa_nil)))) (pe_one (pe_cmpR (op_eqD hr.units) (pv 0) (pv 1) (nomark _))))))) pss_nil) (pss_cons (ps_if (pt_val (pe_callB call_isi (by rfl) T.b_isinstance bb_isinstance (pa_cons (pv 1) (pa_cons (pe_bltn (by rfl) T.b_str bb_str rfl) pa_nil)))) (pss_one (ps_ret (pe_and (pe_callB call_isi (by rfl) T.b_isinstance bb_isinstance (pa_cons (pv 0) (pa_cons (pe_bltn (by rfl) T.b_str bb_str rfl) pa_nil))) (pe_one (pe_cmpR (op_eqD hr.units) (pv 0) (pv 1) (nomark _)))))) pss_nil) (pss_cons (ps_if (PW.pt (pw_or (pt_cmpR (op_neD hr.units) (pe_callB call_isi (by rfl) T.b_isinstance bb_isinstance (pa_cons (pv 1) (pa_cons (pe_bltn (by rfl) T.b_tuple bb_tuple rfl) pa_nil))) (pe_callB call_isi (by rfl) T.b_isinstance bb_isinstance (pa_cons (pv 0) (pa_cons (pe_bltn (by rfl) T.b_tuple bb_tuple rfl) pa_nil))) (nomark _)) (pw_or1 (pt_cmpR (op_neD hr.units) (pe_callB call_isi (by rfl) T.b_isinstance bb_isinstance (pa_cons (pv 1) (pa_cons (pe_bltn (by rfl) T.b_list bb_list rfl) pa_nil))) (pe_callB call_isi (by rfl) T.b_isinstance bb_isinstance (pa_cons (pv 0) (pa_cons (pe_bltn (by rfl) T.b_list bb_list rfl) pa_nil))) (nomark _))))) (pss_one (ps_ret pe_bl)) pss_nil) (pss_cons (ps_if (pt_cmpR (op_neD hr.units) (pe_callB call_lenA (by rfl) T.b_len bb_len (pa_cons (pv 0) pa_nil)) (pe_callB call_lenA (by rfl) T.b_len bb_len (pa_cons (pv 1) pa_nil)) (nomark _)) (pss_one (ps_ret pe_bl)) pss_nil) (pss_one (ps_ret (pe_callB (cr_all rfl) (by rfl) T.b_all bb_all (pa_cons (pe_lc (own := [("_law_k", 2)]) rfl sc.nd (pi_range1 (by rfl) T.b_range (pa_cons (pe_callB call_lenA (by rfl) T.b_len bb_len (pa_cons (pv 1) pa_nil)) pa_nil)) (blkOk_by (by kernel_rfl)) (fun _ _ _ _ _ => (pg_name (i := 2) sc.nd rfl (by first | exact .inl rfl | exact .inr rfl))) (fun _ _ _ _ _ => pts_nil) (fun _ _ _ _ _ => (pe_kn G__law_alike (hr.mono (by omega)) (by rfl) (pa_cons (pe_ixA (hu_of hr) (pv 0) (pv 2) (fun _ _ => rfl)) (pa_cons (pe_ixA (hu_of hr) (pv 1) (pv 2) (fun _ _ => rfl)) pa_nil))))) pa_nil))))))))))
abbrev st__law_is_held : Stmt := top 36
def bd__law_is_held_1 : Sx := (sIf (eAnd (eBin gLt (eVar 3) (eVar 2)) (eAnd (eBin gEq (eBin gIx (eBin gIx (eVar 0) (eVar 3)) (eLit (.int 0))) (eBin gIx (eBin gIx (eVar 0) (eVar 2)) (eLit (.int 0)))) (eIsi .str (eBin gIx (eBin gIx (eVar 0) (eVar 3)) (eLit (.int 4)))))) (sIf (eOr (eUn gNotN (eBin gIx (eBin gIx (eVar 0) (eVar 3)) (eLit (.int 3)))) (eBin gEq (eBin gIx (eBin gIx (eVar 0) (eVar 3)) (eLit (.int 4))) (eBin gIx (eBin gIx (eVar 0) (eVar 2)) (eLit (.int 4))))) (sRet (eLit (.bl true))) sNil) sNil)
def bo__law_is_held : Sx := (sSeq (sFor (fVar 1) (tgName 3) bd__law_is_held_1) (sRet (eLit (.bl false))))
def ev__law_is_held : Ru := runOf 4 bo__law_is_held
theorem sc__law_is_held : FnScope ["_law_rows", "_law_left", "_law_one", "_law_other"] ["_law_rows", "_law_left", "_law_one"] (defScope st__law_is_held) := ⟨rfl, rfl, rfl, by decide +kernel, rfl, by decide +kernel, by decide +kernel⟩
def t__law_is_held (P : Program) (w : World) (K : PySem.W.Frag) (CA : Nat → Addr) : TS := (tSeq (tFor (iSeq K (tVar 1)) (gName 3) (tIfS (tAnd (tTest (tOp rLtI (tVar 3) (tVar 2))) (tAnd (tTest (tOp (rEqD K) (tIxA K (tIxA K (tVar 0) (tVar 3)) (tC (.int 0))) (tIxA K (tIxA K (tVar 0) (tVar 2)) (tC (.int 0))))) (tB (tCB (rIsi K) (tCons (tIxA K (tIxA K (tVar 0) (tVar 3)) (tC (.int 4))) (tCons (tC (.ty "str")) tNil)))))) (tIfS (tOr (tB (tNotN (tIxA K (tIxA K (tVar 0) (tVar 3)) (tC (.int 3))))) (tTest (tOp (rEqD K) (tIxA K (tIxA K (tVar 0) (tVar 3)) (tC (.int 4))) (tIxA K (tIxA K (tVar 0) (tVar 2)) (tC (.int 4)))))) (tRet (tC (.bl true))) tNext) tNext)) (tRet (tC (.bl false))))
theorem sim__law_is_held : SimS (Wv P w K CA) (t__law_is_held P w K CA) (bo__law_is_held) := (simS_seq (simS_for simI_var tg_name (simS_if (simT_and (simT_test (sim_bin sim_var sim_var sim_lt)) (simT_and (simT_test (sim_bin (sim_ix (sim_ix sim_var sim_var) sim_int) (sim_ix (sim_ix sim_var sim_var) sim_int) sim_eq)) (simT_of (sim_isi (t := .str) (sim_ix (sim_ix sim_var sim_var) sim_int))))) (simS_if (simT_or (simT_of (sim_notN (sim_ix (sim_ix sim_var sim_var) sim_int))) (simT_test (sim_bin (sim_ix (sim_ix sim_var sim_var) sim_int) (sim_ix (sim_ix sim_var sim_var) sim_int) sim_eq))) (simS_ret sim_bl) simS_nil) simS_nil)) (simS_ret sim_bl))
theorem ok__law_is_held (T : Fx K mg) {f : Addr} {fd : FuncData} (F : FnP K "_law_is_held" "_law_is_held" st__law_is_held [] f fd)   : FnOk P w K mg base CX0 1 f fd ["_law_rows", "_law_left", "_law_one"] (spOf (Wv P w K CA) 3 ev__law_is_held) := by
  have sc := sc__law_is_held
  refine fn_ok F sc fun cdv A outer s H E hr => ⟨t__law_is_held P w K CA, ?_, sim__law_is_held⟩
  exact (pss_cons (ps_for PassesOwn.never rfl (pi_seq (pv 1)) (pg_name (i := 3) sc.nd rfl (by first | exact .inl rfl | exact .inr rfl)) (pss_one (ps_if (PW.pt (pw_and (pt_cmpR op_lt (pv 3) (pv 2) (nomark _)) (pw_and (pt_cmpR (op_eqD hr.units) (pe_ixA (hu_of hr) (pe_ixA (hu_of hr) (pv 0) (pv 3) (fun _ _ => rfl)) pe_int (fun _ _ => rfl)) (pe_ixA (hu_of hr) (pe_ixA (hu_of hr) (pv 0) (pv 2) (fun _ _ => rfl)) pe_int (fun _ _ => rfl)) (nomark _)) (pw_and1 (pt_val (pe_callB call_isi (by rfl) T.b_isinstance bb_isinstance (pa_cons (pe_ixA (hu_of hr) (pe_ixA (hu_of hr) (pv 0) (pv 3) (fun _ _ => rfl)) pe_int (fun _ _ => rfl)) (pa_cons (pe_bltn (by rfl) T.b_str bb_str rfl) pa_nil)))))))) (pss_one (ps_if (PW.pt (pw_or (pt_cmp (pc_notN (pe_ixA (hu_of hr) (pe_ixA (hu_of hr) (pv 0) (pv 3) (fun _ _ => rfl)) pe_int (fun _ _ => rfl))) rfl) (pw_or1 (pt_cmpR (op_eqD hr.units) (pe_ixA (hu_of hr) (pe_ixA (hu_of hr) (pv 0) (pv 3) (fun _ _ => rfl)) pe_int (fun _ _ => rfl)) (pe_ixA (hu_of hr) (pe_ixA (hu_of hr) (pv 0) (pv 2) (fun _ _ => rfl)) pe_int (fun _ _ => rfl)) (nomark _))))) (pss_one (ps_ret pe_bl)) pss_nil)) pss_nil))) (pss_one (ps_ret pe_bl)))
abbrev st__law_fits : Stmt := top 33
def bd__law_fits_1 (run : Ru) : Sx := (sSeq (sUnp [8, 9] (eCall ev__law_done [] [(eVar 2), (eBin gIx (eBin gIx (eVar 0) (eVar 5)) (eLit (.int 1)))])) (sSeq (sAsg 6 (eBin gIx (eBin gIx (eVar 0) (eVar 5)) (eLit (.int 4)))) (sIf (eOr (eUn gIsN (eBin gIx (eBin gIx (eVar 0) (eVar 5)) (eLit (.int 3)))) (eOr (eIsi .str (eVar 6)) (eCall (ev__law_alike 40) [] [(eVar 6), (eVar 8)]))) (sIf (eCall run [] [(eVar 0), (eBlt gTuple [(eComp (fVar 1) (tgName 7) [7] (eBin gNe (eVar 7) (eVar 5)) (eVar 7))]), (eVar 9), (eVar 3)]) (sRet (eLit (.bl true))) sNil) sNil)))
def bo__law_fits (run : Ru) : Sx := (sSeq (sAsg 4 (eComp (fVar 1) (tgName 5) [5] (eUn gNotN (eBin gIx (eBin gIx (eVar 0) (eVar 5)) (eLit (.int 3)))) (eBin gIx (eBin gIx (eVar 0) (eVar 5)) (eLit (.int 3))))) (sSeq (sIf (eBin gEq (eVar 4) (eLst [])) (sRet (eLit (.bl true))) sNil) (sSeq (sIf (eBin gIn (eTup [(eVar 1), (eVar 2)]) (eVar 3)) (sRet (eLit (.bl false))) sNil) (sSeq (sFor (fSeq (eComp (fVar 1) (tgName 7) [7] (eAnd (eBin gLe (eBin gIx (eBin gIx (eVar 0) (eVar 7)) (eLit (.int 2))) (eBlt gMin [(eVar 4)])) (eUn gNot (eCall ev__law_is_held [] [(eVar 0), (eVar 1), (eVar 7)]))) (eVar 7))) (tgName 5) (bd__law_fits_1 run)) (sSeq (sSet (eVar 3) (eTup [(eVar 1), (eVar 2)]) (eLit (.bl true))) (sRet (eLit (.bl false))))))))
def ev__law_fits : Nat → Ru
  | 0 => fun _ _ => none
  | n + 1 => runOf 10 (bo__law_fits (ev__law_fits n))
theorem sc__law_fits : FnScope ["_law_rows", "_law_left", "_law_worths", "_law_dead", "_law_ends", "_law_number", "_law_told", "_law_one", "_law_answer", "_law_behind"] ["_law_rows", "_law_left", "_law_worths", "_law_dead"] (defScope st__law_fits) := ⟨rfl, rfl, rfl, by decide +kernel, rfl, by decide +kernel, by decide +kernel⟩
def t__law_fits (P : Program) (w : World) (K : PySem.W.Frag) (CA : Nat → Addr) (run : Ru) : TS := (tSeq (tAsg (tLc (iSeq K (tVar 1)) (gName 5) (tB (tNotN (tIxA K (tIxA K (tVar 0) (tVar 5)) (tC (.int 3))))) (tIxA K (tIxA K (tVar 0) (tVar 5)) (tC (.int 3))) [5]) (gName 4)) (tSeq (tIfS (tTest (tOp (rEqD K) (tVar 4) (tLst tNil))) (tRet (tC (.bl true))) tNext) (tSeq (tIfS (tTest (tOp (rInA K) (tTup (tCons (tVar 1) (tCons (tVar 2) tNil))) (tVar 3))) (tRet (tC (.bl false))) tNext) (tSeq (tFor (iSeq K (tLc (iSeq K (tVar 1)) (gName 7) (tAnd (tTest (tOp rLeI (tIxA K (tIxA K (tVar 0) (tVar 7)) (tC (.int 2))) (tCB (rMinA K) (tCons (tVar 4) tNil)))) (tNot (tB (tCall (spOf (Wv P w K CA) 3 ev__law_is_held) [] L2.E0 (tCons (tVar 0) (tCons (tVar 1) (tCons (tVar 7) tNil))))))) (tVar 7) [7])) (gName 5) (tSeq (tAsg (tCall (spOf (Wv P w K CA) 2 ev__law_done) [] L2.E0 (tCons (tVar 2) (tCons (tIxA K (tIxA K (tVar 0) (tVar 5)) (tC (.int 1))) tNil))) (gUnp K [8, 9])) (tSeq (tAsg (tIxA K (tIxA K (tVar 0) (tVar 5)) (tC (.int 4))) (gName 6)) (tIfS (tOr (tB (tIsN (tIxA K (tIxA K (tVar 0) (tVar 5)) (tC (.int 3))))) (tOr (tB (tCB (rIsi K) (tCons (tVar 6) (tCons (tC (.ty "str")) tNil)))) (tB (tCall (spOf (Wv P w K CA) 2 (ev__law_alike 40)) [] L2.E0 (tCons (tVar 6) (tCons (tVar 8) tNil)))))) (tIfS (tB (tCall (spOf (Wv P w K CA) 4 run) [] L2.E0 (tCons (tVar 0) (tCons (tCB (rTupOf K) (tCons (tLc (iSeq K (tVar 1)) (gName 7) (tTest (tOp (rNeD K) (tVar 7) (tVar 5))) (tVar 7) [7]) tNil)) (tCons (tVar 9) (tCons (tVar 3) tNil)))))) (tRet (tC (.bl true))) tNext) tNext)))) (tSeq (tSet (tVar 3) (tTup (tCons (tVar 1) (tCons (tVar 2) tNil))) (tC (.bl true))) (tRet (tC (.bl false))))))))
theorem sim__law_fits (run : Ru) : SimS (Wv P w K CA) (t__law_fits P w K CA run) (bo__law_fits run) := (simS_seq (simS_asg (sim_comp (js := [5]) (vs := [5]) simI_var simG_name (by decide) (simT_of (sim_notN (sim_ix (sim_ix sim_var sim_var) sim_int))) (sim_ix (sim_ix sim_var sim_var) sim_int))) (simS_seq (simS_if (simT_test (sim_bin sim_var (sim_lst simA_nil) sim_eq)) (simS_ret sim_bl) simS_nil) (simS_seq (simS_if (simT_test (sim_bin (sim_tup (simA_cons sim_var (simA_cons sim_var simA_nil))) sim_var sim_in)) (simS_ret sim_bl) simS_nil) (simS_seq (simS_for (simI_seq (sim_comp (js := [7]) (vs := [7]) simI_var simG_name (by decide) (simT_and (simT_test (sim_bin (sim_ix (sim_ix sim_var sim_var) sim_int) (sim_blt (simA_cons sim_var simA_nil) sim_min) sim_le)) (simT_not (simT_of (sim_call (dfl := []) (simA_cons sim_var (simA_cons sim_var (simA_cons sim_var simA_nil))) rfl rfl)))) sim_var)) tg_name (simS_seq (simS_unp (sim_call (dfl := []) (simA_cons sim_var (simA_cons (sim_ix (sim_ix sim_var sim_var) sim_int) simA_nil)) rfl rfl)) (simS_seq (simS_asg (sim_ix (sim_ix sim_var sim_var) sim_int)) (simS_if (simT_or (simT_of (sim_isN (sim_ix (sim_ix sim_var sim_var) sim_int))) (simT_or (simT_of (sim_isi (t := .str) sim_var)) (simT_of (sim_call (dfl := []) (simA_cons sim_var (simA_cons sim_var simA_nil)) rfl rfl)))) (simS_if (simT_of (sim_call (dfl := []) (simA_cons sim_var (simA_cons (sim_blt (simA_cons (sim_comp (js := [7]) (vs := [7]) simI_var simG_name (by decide) (simT_test (sim_bin sim_var sim_var sim_ne)) sim_var) simA_nil) sim_tuple) (simA_cons sim_var (simA_cons sim_var simA_nil)))) rfl rfl)) (simS_ret sim_bl) simS_nil) simS_nil)))) (simS_seq (simS_set sim_var (sim_tup (simA_cons sim_var (simA_cons sim_var simA_nil))) sim_bl) (simS_ret sim_bl))))))
theorem ok__law_fits (T : Fx K mg) {f : Addr} {fd : FuncData} (F : FnP K "_law_fits" "_law_fits" st__law_fits [] f fd) (G__law_is_held : Kn P w K mg base 1 "_law_is_held" ["_law_rows", "_law_left", "_law_one"] [] (spOf (Wv P w K CA) 3 ev__law_is_held)) (G__law_done : Kn P w K mg base 1 "_law_done" ["_law_worths", "_law_deed_here"] [] (spOf (Wv P w K CA) 2 ev__law_done)) (G__law_alike : Kn P w K mg base 41 "_law_alike" ["_law_found", "_law_due"] [] (spOf (Wv P w K CA) 2 (ev__law_alike 40))) (run : Ru) {n : Nat} (G__law_fits : Kn P w K mg base (42 + n) "_law_fits" ["_law_rows", "_law_left", "_law_worths", "_law_dead"] [] (spOf (Wv P w K CA) 4 run)) : FnOk P w K mg base CX0 (42 + n + 1) f fd ["_law_rows", "_law_left", "_law_worths", "_law_dead"] (spOf (Wv P w K CA) 4 (runOf 10 (bo__law_fits run))) := by
  have sc := sc__law_fits
  refine fn_ok F sc fun cdv A outer s H E hr => ⟨t__law_fits P w K CA run, ?_, sim__law_fits run⟩
  exact (pss_cons (ps_set (i := 4) sc.nd rfl (by first | exact .inl rfl | exact .inr rfl) (pe_lc (own := [("_law_number", 5)]) rfl sc.nd (pi_seq (pv 1)) (blkOk_by (by kernel_rfl)) (fun _ _ _ _ _ => (pg_name (i := 5) sc.nd rfl (by first | exact .inl rfl | exact .inr rfl))) (fun _ _ _ _ _ => (pts_one (pt_cmp (pc_notN (pe_ixA (hu_of hr) (pe_ixA (hu_of hr) (pv 0) (pv 5) (fun _ _ => rfl)) pe_int (fun _ _ => rfl))) rfl))) (fun _ _ _ _ _ => (pe_ixA (hu_of hr) (pe_ixA (hu_of hr) (pv 0) (pv 5) (fun _ _ => rfl)) pe_int (fun _ _ => rfl))))) (pss_cons (ps_if (pt_cmpR (op_eqD hr.units) (pv 4) (pe_lst pa_nil) (nomark _)) (pss_one (ps_ret pe_bl)) pss_nil) (pss_cons (ps_if (pt_cmpR (op_inA (u65 hr)) (pe_tup (pa_cons (pv 1) (pa_cons (pv 2) pa_nil))) (pv 3) (by rfl)) (pss_one (ps_ret pe_bl)) pss_nil) (pss_cons (ps_for PassesOwn.never rfl (pi_seq (pe_lc (own := [("_law_one", 7)]) rfl sc.nd (pi_seq (pv 1)) (blkOk_by (by kernel_rfl)) (fun _ _ _ _ _ => (pg_name (i := 7) sc.nd rfl (by first | exact .inl rfl | exact .inr rfl))) (fun _ _ _ _ _ => (pts_one (PW.pt (pw_and (pt_cmpR op_le (pe_ixA (hu_of hr) (pe_ixA (hu_of hr) (pv 0) (pv 7) (fun _ _ => rfl)) pe_int (fun _ _ => rfl)) (pe_callB (call_minA rfl) (by rfl) T.b_min bb_min (pa_cons (pv 4) pa_nil)) (nomark _)) (pw_and1 (pt_not (pt_val (pe_kn G__law_is_held (hr.mono (by omega)) (by rfl) (pa_cons (pv 0) (pa_cons (pv 1) (pa_cons (pv 7) pa_nil))))))))))) (fun _ _ _ _ _ => (pv 7)))) (pg_name (i := 5) sc.nd rfl (by first | exact .inl rfl | exact .inr rfl)) (pss_cons (ps_asg (pe_kn G__law_done (hr.mono (by omega)) (by rfl) (pa_cons (pv 2) (pa_cons (pe_ixA (hu_of hr) (pe_ixA (hu_of hr) (pv 0) (pv 5) (fun _ _ => rfl)) pe_int (fun _ _ => rfl)) pa_nil))) (pg_unp (is := [8, 9]) (by rfl) (pgs_cons (pg_name (i := 8) sc.nd rfl (by first | exact .inl rfl | exact .inr rfl)) (pgs_cons (pg_name (i := 9) sc.nd rfl (by first | exact .inl rfl | exact .inr rfl)) pgs_nil)))) (pss_cons (ps_set (i := 6) sc.nd rfl (by first | exact .inl rfl | exact .inr rfl) (pe_ixA (hu_of hr) (pe_ixA (hu_of hr) (pv 0) (pv 5) (fun _ _ => rfl)) pe_int (fun _ _ => rfl))) (pss_one (ps_if (PW.pt (pw_or (pt_cmp (pc_isN (pe_ixA (hu_of hr) (pe_ixA (hu_of hr) (pv 0) (pv 5) (fun _ _ => rfl)) pe_int (fun _ _ => rfl))) rfl) (pw_or (pt_val (pe_callB call_isi (by rfl) T.b_isinstance bb_isinstance (pa_cons (pv 6) (pa_cons (pe_bltn (by rfl) T.b_str bb_str rfl) pa_nil)))) (pw_or1 (pt_val (pe_kn G__law_alike (hr.mono (by omega)) (by rfl) (pa_cons (pv 6) (pa_cons (pv 8) pa_nil)))))))) (pss_one (ps_if (pt_val (pe_kn G__law_fits (hr.mono (by omega)) (by rfl) (pa_cons (pv 0) (pa_cons (pe_callTy call_tuple_of (by rfl) T.b_tuple bb_tuple (pa_cons (pe_lc (own := [("_law_one", 7)]) rfl sc.nd (pi_seq (pv 1)) (blkOk_by (by kernel_rfl)) (fun _ _ _ _ _ => (pg_name (i := 7) sc.nd rfl (by first | exact .inl rfl | exact .inr rfl))) (fun _ _ _ _ _ => (pts_one (pt_cmpR (op_neD hr.units) (pv 7) (pv 5) (nomark _)))) (fun _ _ _ _ _ => (pv 7))) pa_nil)) (pa_cons (pv 9) (pa_cons (pv 3) pa_nil)))))) (pss_one (ps_ret pe_bl)) pss_nil)) pss_nil))))) (pss_cons (ps_set3 (u16 hr) (pv 3) (pe_tup (pa_cons (pv 1) (pa_cons (pv 2) pa_nil))) pe_bl) (pss_one (ps_ret pe_bl)))))))
abbrev st__law_explained : Stmt := top 34
def bd__law_explained_1 : Sx := (sSeq (sIf (eBin gEq (eBin gIx (eVar 3) (eLit (.int 0))) (eLit (.str "wait"))) (sSeq (sIf (eAnd (eUn gNotN (eVar 5)) (eOr (eBin gEq (eVar 6) (eBin gIx (eVar 3) (eLit (.int 2)))) (eIsi .tuple (eVar 6)))) (sRet (eLit (.bl false))) sNil) (sPar 3 6 (eTup [(eLit (.str "look")), (eTup [(eBin gIx (eVar 3) (eLit (.int 1)))])]) (eIf (eUn gIsN (eVar 5)) (eLit (.non)) (eTup [(eVar 6)])))) sNil) (sSeq (sIf (eAnd (eBin gEq (eBin gIx (eVar 3) (eLit (.int 0))) (eLit (.str "save"))) (eAnd (eUn gNotN (eVar 5)) (eBin gNotB (eVar 6) (eLit (.bl true))))) (sRet (eLit (.bl false))) sNil) (sIf (eBin gNe (eBin gIx (eVar 3) (eLit (.int 0))) (eLit (.str "save"))) (sAppV 1 (eTup [(eVar 2), (eVar 3), (eVar 4), (eVar 5), (eVar 6)])) sNil)))
def bo__law_explained : Sx := (sSeq (sAsg 1 (eLst [])) (sSeq (sFor (fVar 0) (tgTup [2, 3, 4, 5, 6]) bd__law_explained_1) (sRet (eCall (ev__law_fits 40) [] [(eVar 1), (eTupRg (eBlt gLen [(eVar 1)])), (eBin gMul (eTup [(eLit (.int 0))]) (eLit (.int 10))), (eBox (eDNew .N))]))))
def ev__law_explained : Ru := runOf 7 bo__law_explained
theorem sc__law_explained : FnScope ["_law_rows", "_law_some_here", "_law_user", "_law_deed_here", "_law_begin", "_law_end", "_law_answer"] ["_law_rows"] (defScope st__law_explained) := ⟨rfl, rfl, rfl, by decide +kernel, rfl, by decide +kernel, by decide +kernel⟩
def t__law_explained (P : Program) (w : World) (K : PySem.W.Frag) (CA : Nat → Addr) : TS := (tSeq (tAsg (tLst tNil) (gName 1)) (tSeq (tFor (iSeq K (tVar 0)) (gTup K 5 (gNames [2, 3, 4, 5, 6])) (tSeq (tIfS (tTest (tOp (rEqD K) (tIxA K (tVar 3) (tC (.int 0))) (tC (.str "wait")))) (tSeq (tIfS (tAnd (tB (tNotN (tVar 5))) (tOr (tTest (tOp (rEqD K) (tVar 6) (tIxA K (tVar 3) (tC (.int 2))))) (tB (tCB (rIsi K) (tCons (tVar 6) (tCons (tC (.ty "tuple")) tNil)))))) (tRet (tC (.bl false))) tNext) (tPar 3 6 (tCons (tTup (tCons (tC (.str "look")) (tCons (tTup (tCons (tIxA K (tVar 3) (tC (.int 1))) tNil)) tNil))) (tCons (tIf (tB (tIsN (tVar 5))) (tC (.non)) (tTup (tCons (tVar 6) tNil))) tNil)))) tNext) (tSeq (tIfS (tAnd (tTest (tOp (rEqD K) (tIxA K (tVar 3) (tC (.int 0))) (tC (.str "save")))) (tAnd (tB (tNotN (tVar 5))) (tTest (tOp rNotB (tVar 6) (tC (.bl true)))))) (tRet (tC (.bl false))) tNext) (tIfS (tTest (tOp (rNeD K) (tIxA K (tVar 3) (tC (.int 0))) (tC (.str "save")))) (tDrop (tApp K (tVar 1) (tTup (tCons (tVar 2) (tCons (tVar 3) (tCons (tVar 4) (tCons (tVar 5) (tCons (tVar 6) tNil)))))))) tNext)))) (tRet (tCall (spOf (Wv P w K CA) 4 (ev__law_fits 40)) [] L2.E0 (tCons (tVar 1) (tCons (tTupRg (tRg1 (tCB (rLenA K) (tCons (tVar 1) tNil)))) (tCons (tOp (rMulA K) (tTup (tCons (tC (.int 0)) tNil)) (tC (.int 10))) (tCons tDNewN tNil))))))))
theorem sim__law_explained : SimS (Wv P w K CA) (t__law_explained P w K CA) (bo__law_explained) := (simS_seq (simS_asg (sim_lst simA_nil)) (simS_seq (simS_for simI_var (tg_tup (is := [2, 3, 4, 5, 6])) (simS_seq (simS_if (simT_test (sim_bin (sim_ix sim_var sim_int) sim_str sim_eq)) (simS_seq (simS_if (simT_and (simT_of (sim_notN sim_var)) (simT_or (simT_test (sim_bin sim_var (sim_ix sim_var sim_int) sim_eq)) (simT_of (sim_isi (t := .tuple) sim_var)))) (simS_ret sim_bl) simS_nil) (simS_par (sim_tup (simA_cons sim_str (simA_cons (sim_tup (simA_cons (sim_ix sim_var sim_int) simA_nil)) simA_nil))) (sim_if (simT_of (sim_isN sim_var)) sim_non (sim_tup (simA_cons sim_var simA_nil))))) simS_nil) (simS_seq (simS_if (simT_and (simT_test (sim_bin (sim_ix sim_var sim_int) sim_str sim_eq)) (simT_and (simT_of (sim_notN sim_var)) (simT_test (sim_bin sim_var sim_bl sim_notB)))) (simS_ret sim_bl) simS_nil) (simS_if (simT_test (sim_bin (sim_ix sim_var sim_int) sim_str sim_ne)) (simS_appV (sim_tup (simA_cons sim_var (simA_cons sim_var (simA_cons sim_var (simA_cons sim_var (simA_cons sim_var simA_nil))))))) simS_nil)))) (simS_ret (sim_call (dfl := []) (simA_cons sim_var (simA_cons (sim_tupRg (sim_blt (simA_cons sim_var simA_nil) sim_len)) (simA_cons (sim_bin (sim_tup (simA_cons sim_int simA_nil)) sim_int sim_mul) (simA_cons (sim_box sim_dnewN) simA_nil)))) rfl rfl))))
theorem ok__law_explained (T : Fx K mg) {f : Addr} {fd : FuncData} (F : FnP K "_law_explained" "_law_explained" st__law_explained [] f fd) (G__law_fits : Kn P w K mg base 82 "_law_fits" ["_law_rows", "_law_left", "_law_worths", "_law_dead"] [] (spOf (Wv P w K CA) 4 (ev__law_fits 40)))  : FnOk P w K mg base CX0 83 f fd ["_law_rows"] (spOf (Wv P w K CA) 1 ev__law_explained) := by
  have sc := sc__law_explained
  refine fn_ok F sc fun cdv A outer s H E hr => ⟨t__law_explained P w K CA, ?_, sim__law_explained⟩
  exact (pss_cons (ps_set (i := 1) sc.nd rfl (by first | exact .inl rfl | exact .inr rfl) (pe_lst pa_nil)) (pss_cons (ps_for PassesOwn.never rfl (pi_seq (pv 0)) (pg_tup (by rfl) (pgs_cons (pg_name (i := 2) sc.nd rfl (by first | exact .inl rfl | exact .inr rfl)) (pgs_cons (pg_name (i := 3) sc.nd rfl (by first | exact .inl rfl | exact .inr rfl)) (pgs_cons (pg_name (i := 4) sc.nd rfl (by first | exact .inl rfl | exact .inr rfl)) (pgs_cons (pg_name (i := 5) sc.nd rfl (by first | exact .inl rfl | exact .inr rfl)) (pgs_cons (pg_name (i := 6) sc.nd rfl (by first | exact .inl rfl | exact .inr rfl)) pgs_nil)))))) (pss_cons (ps_if (pt_cmpR (op_eqD hr.units) (pe_ixA (hu_of hr) (pv 3) pe_int (fun _ _ => rfl)) pe_str (nomark _)) (pss_cons (ps_if (PW.pt (pw_and (pt_cmp (pc_notN (pv 5)) rfl) (pw_and1 (PW.pt (pw_or (pt_cmpR (op_eqD hr.units) (pv 6) (pe_ixA (hu_of hr) (pv 3) pe_int (fun _ _ => rfl)) (nomark _)) (pw_or1 (pt_val (pe_callB call_isi (by rfl) T.b_isinstance bb_isinstance (pa_cons (pv 6) (pa_cons (pe_bltn (by rfl) T.b_tuple bb_tuple rfl) pa_nil)))))))))) (pss_one (ps_ret pe_bl)) pss_nil) (pss_one (ps_par (by rfl) sc.nd rfl rfl (by decide) rfl rfl (pa_cons (pe_tup (pa_cons pe_str (pa_cons (pe_tup (pa_cons (pe_ixA (hu_of hr) (pv 3) pe_int (fun _ _ => rfl)) pa_nil)) pa_nil))) (pa_cons (pe_ifExp (pt_cmp (pc_isN (pv 5)) rfl) pe_non (pe_tup (pa_cons (pv 6) pa_nil))) pa_nil)) (by rfl)))) pss_nil) (pss_cons (ps_if (PW.pt (pw_and (pt_cmpR (op_eqD hr.units) (pe_ixA (hu_of hr) (pv 3) pe_int (fun _ _ => rfl)) pe_str (nomark _)) (pw_and (pt_cmp (pc_notN (pv 5)) rfl) (pw_and1 (pt_cmpR op_notBl (pv 6) pe_bl (nomark _)))))) (pss_one (ps_ret pe_bl)) pss_nil) (pss_one (ps_if (pt_cmpR (op_neD hr.units) (pe_ixA (hu_of hr) (pv 3) pe_int (fun _ _ => rfl)) pe_str (nomark _)) (pss_one (ps_expr (pe_bm PySem.F.plainAttrs_list PySem.F.slot_list_append PySem.F.type_list_append mt_append (pv 1) (pa_cons (pe_tup (pa_cons (pv 2) (pa_cons (pv 3) (pa_cons (pv 4) (pa_cons (pv 5) (pa_cons (pv 6) pa_nil)))))) pa_nil)))) pss_nil))))) (pss_one (ps_ret (pe_kn G__law_fits (hr.mono (by omega)) (by rfl) (pa_cons (pv 1) (pa_cons (pe_tupRg rfl (by rfl) T.b_tuple (prg_1 (by rfl) T.b_range (pe_callB call_lenA (by rfl) T.b_len bb_len (pa_cons (pv 1) pa_nil)))) (pa_cons (pe_op op_mulA (pe_tup (pa_cons pe_int pa_nil)) pe_int) (pa_cons pe_dnewN pa_nil)))))))))
abbrev st_is_below : Stmt := top 8
def bo_is_below : Sx := (sRet (eAnd (eIsi .int (eVar 0)) (eAnd (eUn gNot (eIsi .bool (eVar 0))) (eChain gLe gLt (eLit (.int 0)) (eVar 0) (eVar 1)))))
def ev_is_below : Ru := runOf 2 bo_is_below
theorem sc_is_below : FnScope ["part", "bound"] ["part", "bound"] (defScope st_is_below) := ⟨rfl, rfl, rfl, by decide +kernel, rfl, by decide +kernel, by decide +kernel⟩
def t_is_below (P : Program) (w : World) (K : PySem.W.Frag) (CA : Nat → Addr) : TS := (tRet (tAndV (tCB (rIsi K) (tCons (tVar 0) (tCons (tC (.ty "int")) tNil))) (tAndV (tNotV (tCB (rIsi K) (tCons (tVar 0) (tCons (tC (.ty "bool")) tNil)))) (tChain rLeI rLtI (tC (.int 0)) (tVar 0) (tVar 1)))))
theorem sim_is_below : SimS (Wv P w K CA) (t_is_below P w K CA) (bo_is_below) := (simS_ret (sim_and (sim_isi (t := .int) sim_var) (sim_and (sim_not (sim_isi (t := .bool) sim_var)) (sim_chain sim_int sim_var sim_var sim_le sim_lt))))
theorem ok_is_below (T : Fx K mg) {f : Addr} {fd : FuncData} (F : FnP K "is_below" "is_below" st_is_below [] f fd)   : FnOk P w K mg base CX0 1 f fd ["part", "bound"] (spOf (Wv P w K CA) 2 ev_is_below) := by
  have sc := sc_is_below
  refine fn_ok F sc fun cdv A outer s H E hr => ⟨t_is_below P w K CA, ?_, sim_is_below⟩
  exact (pss_one (ps_ret (pe_and (pe_callB call_isi (by rfl) T.b_isinstance bb_isinstance (pa_cons (pv 0) (pa_cons (pe_bltn (by rfl) T.b_int bb_int rfl) pa_nil))) (pe_and (pe_not (pe_callB call_isi (by rfl) T.b_isinstance bb_isinstance (pa_cons (pv 0) (pa_cons (pe_bltn (by rfl) T.b_bool bb_bool rfl) pa_nil)))) (pe_one (pe_chain op_le op_lt pe_int (pv 0) (pv 1)))))))
abbrev st_is_answer : Stmt := top 24
def bo_is_answer : Sx := (sSeq (sIf (eBin gEq (eBin gIx (eVar 0) (eLit (.int 0))) (eLit (.str "move"))) (sRet (eIsi .bool (eVar 1))) sNil) (sSeq (sIf (eBin gEq (eBin gIx (eVar 0) (eLit (.int 0))) (eLit (.str "add"))) (sRet (eCall ev_is_below [] [(eVar 1), (eLit (.int 1000))])) sNil) (sSeq (sIf (eOr (eUn gNot (eIsi .tuple (eVar 1))) (eBin gNe (eBlt gLen [(eVar 1)]) (eBlt gLen [(eBin gIx (eVar 0) (eLit (.int 1)))]))) (sRet (eLit (.bl false))) sNil) (sRet (eBin gEq (eComp (fVar 1) (tgName 2) [2] (eUn gNot (eCall ev_is_below [] [(eVar 2), (eLit (.int 1000))])) (eVar 2)) (eLst []))))))
def ev_is_answer : Ru := runOf 3 bo_is_answer
theorem sc_is_answer : FnScope ["deed", "answer", "worth"] ["deed", "answer"] (defScope st_is_answer) := ⟨rfl, rfl, rfl, by decide +kernel, rfl, by decide +kernel, by decide +kernel⟩
def t_is_answer (P : Program) (w : World) (K : PySem.W.Frag) (CA : Nat → Addr) : TS := (tSeq (tIfS (tTest (tOp (rEqD K) (tIxA K (tVar 0) (tC (.int 0))) (tC (.str "move")))) (tRet (tCB (rIsi K) (tCons (tVar 1) (tCons (tC (.ty "bool")) tNil)))) tNext) (tSeq (tIfS (tTest (tOp (rEqD K) (tIxA K (tVar 0) (tC (.int 0))) (tC (.str "add")))) (tRet (tCall (spOf (Wv P w K CA) 2 ev_is_below) [] L2.E0 (tCons (tVar 1) (tCons (tC (.int 1000)) tNil)))) tNext) (tSeq (tIfS (tOr (tNot (tB (tCB (rIsi K) (tCons (tVar 1) (tCons (tC (.ty "tuple")) tNil))))) (tTest (tOp (rNeD K) (tCB (rLenA K) (tCons (tVar 1) tNil)) (tCB (rLenA K) (tCons (tIxA K (tVar 0) (tC (.int 1))) tNil))))) (tRet (tC (.bl false))) tNext) (tRet (tOp (rEqD K) (tLc (iSeq K (tVar 1)) (gName 2) (tNot (tB (tCall (spOf (Wv P w K CA) 2 ev_is_below) [] L2.E0 (tCons (tVar 2) (tCons (tC (.int 1000)) tNil))))) (tVar 2) [2]) (tLst tNil))))))
theorem sim_is_answer : SimS (Wv P w K CA) (t_is_answer P w K CA) (bo_is_answer) := (simS_seq (simS_if (simT_test (sim_bin (sim_ix sim_var sim_int) sim_str sim_eq)) (simS_ret (sim_isi (t := .bool) sim_var)) simS_nil) (simS_seq (simS_if (simT_test (sim_bin (sim_ix sim_var sim_int) sim_str sim_eq)) (simS_ret (sim_call (dfl := []) (simA_cons sim_var (simA_cons sim_int simA_nil)) rfl rfl)) simS_nil) (simS_seq (simS_if (simT_or (simT_not (simT_of (sim_isi (t := .tuple) sim_var))) (simT_test (sim_bin (sim_blt (simA_cons sim_var simA_nil) sim_len) (sim_blt (simA_cons (sim_ix sim_var sim_int) simA_nil) sim_len) sim_ne))) (simS_ret sim_bl) simS_nil) (simS_ret (sim_bin (sim_comp (js := [2]) (vs := [2]) simI_var simG_name (by decide) (simT_not (simT_of (sim_call (dfl := []) (simA_cons sim_var (simA_cons sim_int simA_nil)) rfl rfl))) sim_var) (sim_lst simA_nil) sim_eq)))))
theorem ok_is_answer (T : Fx K mg) {f : Addr} {fd : FuncData} (F : FnP K "is_answer" "is_answer" st_is_answer [] f fd) (G_is_below : Kn P w K mg base 1 "is_below" ["part", "bound"] [] (spOf (Wv P w K CA) 2 ev_is_below))  : FnOk P w K mg base CX0 2 f fd ["deed", "answer"] (spOf (Wv P w K CA) 2 ev_is_answer) := by
  have sc := sc_is_answer
  refine fn_ok F sc fun cdv A outer s H E hr => ⟨t_is_answer P w K CA, ?_, sim_is_answer⟩
  exact (pss_cons (ps_if (pt_cmpR (op_eqD hr.units) (pe_ixA (hu_of hr) (pv 0) pe_int (fun _ _ => rfl)) pe_str (nomark _)) (pss_one (ps_ret (pe_callB call_isi (by rfl) T.b_isinstance bb_isinstance (pa_cons (pv 1) (pa_cons (pe_bltn (by rfl) T.b_bool bb_bool rfl) pa_nil))))) pss_nil) (pss_cons (ps_if (pt_cmpR (op_eqD hr.units) (pe_ixA (hu_of hr) (pv 0) pe_int (fun _ _ => rfl)) pe_str (nomark _)) (pss_one (ps_ret (pe_kn G_is_below (hr.mono (by omega)) (by rfl) (pa_cons (pv 1) (pa_cons pe_int pa_nil))))) pss_nil) (pss_cons (ps_if (PW.pt (pw_or (pt_not (pt_val (pe_callB call_isi (by rfl) T.b_isinstance bb_isinstance (pa_cons (pv 1) (pa_cons (pe_bltn (by rfl) T.b_tuple bb_tuple rfl) pa_nil))))) (pw_or1 (pt_cmpR (op_neD hr.units) (pe_callB call_lenA (by rfl) T.b_len bb_len (pa_cons (pv 1) pa_nil)) (pe_callB call_lenA (by rfl) T.b_len bb_len (pa_cons (pe_ixA (hu_of hr) (pv 0) pe_int (fun _ _ => rfl)) pa_nil)) (nomark _))))) (pss_one (ps_ret pe_bl)) pss_nil) (pss_one (ps_ret (pe_cmpR (op_eqD hr.units) (pe_lc (own := [("worth", 2)]) rfl sc.nd (pi_seq (pv 1)) (blkOk_by (by kernel_rfl)) (fun _ _ _ _ _ => (pg_name (i := 2) sc.nd rfl (by first | exact .inl rfl | exact .inr rfl))) (fun _ _ _ _ _ => (pts_one (pt_not (pt_val (pe_kn G_is_below (hr.mono (by omega)) (by rfl) (pa_cons (pv 2) (pa_cons pe_int pa_nil))))))) (fun _ _ _ _ _ => (pv 2))) (pe_lst pa_nil) (nomark _)))))))
abbrev st_are_rising : Stmt := top 9
def bo_are_rising : Sx := (sSeq (sIf (eOr (eUn gNot (eIsi .tuple (eVar 0))) (eUn gNot (eChain gLe gLe (eLit (.int 1)) (eBlt gLen [(eVar 0)]) (eLit (.int 4))))) (sRet (eLit (.bl false))) sNil) (sSeq (sIf (eBin gNe (eComp (fVar 0) (tgName 1) [1] (eUn gNot (eCall ev_is_below [] [(eVar 1), (eLit (.int 10))])) (eVar 1)) (eLst [])) (sRet (eLit (.bl false))) sNil) (sRet (eBin gEq (eBlt gList [(eVar 0)]) (eSortedSet (eVar 0))))))
def ev_are_rising : Ru := runOf 2 bo_are_rising
theorem sc_are_rising : FnScope ["files", "number"] ["files"] (defScope st_are_rising) := ⟨rfl, rfl, rfl, by decide +kernel, rfl, by decide +kernel, by decide +kernel⟩
def t_are_rising (P : Program) (w : World) (K : PySem.W.Frag) (CA : Nat → Addr) : TS := (tSeq (tIfS (tOr (tNot (tB (tCB (rIsi K) (tCons (tVar 0) (tCons (tC (.ty "tuple")) tNil))))) (tNot (tTest (tChain rLeI rLeI (tC (.int 1)) (tCB (rLenA K) (tCons (tVar 0) tNil)) (tC (.int 4)))))) (tRet (tC (.bl false))) tNext) (tSeq (tIfS (tTest (tOp (rNeD K) (tLc (iSeq K (tVar 0)) (gName 1) (tNot (tB (tCall (spOf (Wv P w K CA) 2 ev_is_below) [] L2.E0 (tCons (tVar 1) (tCons (tC (.int 10)) tNil))))) (tVar 1) [1]) (tLst tNil))) (tRet (tC (.bl false))) tNext) (tRet (tOp (rEqD K) (tCB (rListOf K) (tCons (tVar 0) tNil)) (tCB (rSortedSet w) (tCons (tCB (rSetT K w) (tCons (tVar 0) tNil)) tNil))))))
theorem sim_are_rising : SimS (Wv P w K CA) (t_are_rising P w K CA) (bo_are_rising) := (simS_seq (simS_if (simT_or (simT_not (simT_of (sim_isi (t := .tuple) sim_var))) (simT_not (simT_test (sim_chain sim_int (sim_blt (simA_cons sim_var simA_nil) sim_len) sim_int sim_le sim_le)))) (simS_ret sim_bl) simS_nil) (simS_seq (simS_if (simT_test (sim_bin (sim_comp (js := [1]) (vs := [1]) simI_var simG_name (by decide) (simT_not (simT_of (sim_call (dfl := []) (simA_cons sim_var (simA_cons sim_int simA_nil)) rfl rfl))) sim_var) (sim_lst simA_nil) sim_ne)) (simS_ret sim_bl) simS_nil) (simS_ret (sim_bin (sim_blt (simA_cons sim_var simA_nil) sim_list) (sim_sortedSet sim_var) sim_eq))))
theorem ok_are_rising (T : Fx K mg) {f : Addr} {fd : FuncData} (F : FnP K "are_rising" "are_rising" st_are_rising [] f fd) (G_is_below : Kn P w K mg base 1 "is_below" ["part", "bound"] [] (spOf (Wv P w K CA) 2 ev_is_below))  : FnOk P w K mg base CX0 2 f fd ["files"] (spOf (Wv P w K CA) 1 ev_are_rising) := by
  have sc := sc_are_rising
  refine fn_ok F sc fun cdv A outer s H E hr => ⟨t_are_rising P w K CA, ?_, sim_are_rising⟩
  exact (pss_cons (ps_if (PW.pt (pw_or (pt_not (pt_val (pe_callB call_isi (by rfl) T.b_isinstance bb_isinstance (pa_cons (pv 0) (pa_cons (pe_bltn (by rfl) T.b_tuple bb_tuple rfl) pa_nil))))) (pw_or1 (pt_not (pt_chain op_le op_le pe_int (pe_callB call_lenA (by rfl) T.b_len bb_len (pa_cons (pv 0) pa_nil)) (pe_gint T.c_MOST_FILES (by rfl))))))) (pss_one (ps_ret pe_bl)) pss_nil) (pss_cons (ps_if (pt_cmpR (op_neD hr.units) (pe_lc (own := [("number", 1)]) rfl sc.nd (pi_seq (pv 0)) (blkOk_by (by kernel_rfl)) (fun _ _ _ _ _ => (pg_name (i := 1) sc.nd rfl (by first | exact .inl rfl | exact .inr rfl))) (fun _ _ _ _ _ => (pts_one (pt_not (pt_val (pe_kn G_is_below (hr.mono (by omega)) (by rfl) (pa_cons (pv 1) (pa_cons (pe_gint T.c_FILES (by rfl)) pa_nil))))))) (fun _ _ _ _ _ => (pv 1))) (pe_lst pa_nil) (nomark _)) (pss_one (ps_ret pe_bl)) pss_nil) (pss_one (ps_ret (pe_cmpR (op_eqD hr.units) (pe_callTy call_list_of (by rfl) T.b_list bb_list (pa_cons (pv 0) pa_nil)) (pe_callB (cr_sortedSet rfl) (by rfl) T.b_sorted bb_sorted (pa_cons (pe_callTy (call_setT rfl) (by rfl) T.b_set bb_set (pa_cons (pv 0) pa_nil)) pa_nil)) (nomark _))))))
abbrev st_are_pairs : Stmt := top 10
def bo_are_pairs : Sx := (sSeq (sIf (eOr (eUn gNot (eIsi .tuple (eVar 0))) (eBin gNe (eComp (fVar 0) (tgName 1) [1] (eOr (eUn gNot (eIsi .tuple (eVar 1))) (eBin gNe (eBlt gLen [(eVar 1)]) (eLit (.int 2)))) (eVar 1)) (eLst []))) (sRet (eLit (.bl false))) sNil) (sSeq (sIf (eBin gNe (eComp (fVar 0) (tgName 1) [1] (eUn gNot (eCall ev_is_below [] [(eBin gIx (eVar 1) (eLit (.int 1))), (eLit (.int 1000))])) (eVar 1)) (eLst [])) (sRet (eLit (.bl false))) sNil) (sRet (eCall ev_are_rising [] [(eBlt gTuple [(eComp (fVar 0) (tgName 1) [1] eTrue (eBin gIx (eVar 1) (eLit (.int 0))))])]))))
def ev_are_pairs : Ru := runOf 2 bo_are_pairs
theorem sc_are_pairs : FnScope ["pairs", "pair"] ["pairs"] (defScope st_are_pairs) := ⟨rfl, rfl, rfl, by decide +kernel, rfl, by decide +kernel, by decide +kernel⟩
def t_are_pairs (P : Program) (w : World) (K : PySem.W.Frag) (CA : Nat → Addr) : TS := (tSeq (tIfS (tOr (tNot (tB (tCB (rIsi K) (tCons (tVar 0) (tCons (tC (.ty "tuple")) tNil))))) (tTest (tOp (rNeD K) (tLc (iSeq K (tVar 0)) (gName 1) (tOr (tNot (tB (tCB (rIsi K) (tCons (tVar 1) (tCons (tC (.ty "tuple")) tNil))))) (tTest (tOp (rNeD K) (tCB (rLenA K) (tCons (tVar 1) tNil)) (tC (.int 2))))) (tVar 1) [1]) (tLst tNil)))) (tRet (tC (.bl false))) tNext) (tSeq (tIfS (tTest (tOp (rNeD K) (tLc (iSeq K (tVar 0)) (gName 1) (tNot (tB (tCall (spOf (Wv P w K CA) 2 ev_is_below) [] L2.E0 (tCons (tIxA K (tVar 1) (tC (.int 1))) (tCons (tC (.int 1000)) tNil))))) (tVar 1) [1]) (tLst tNil))) (tRet (tC (.bl false))) tNext) (tRet (tCall (spOf (Wv P w K CA) 1 ev_are_rising) [] L2.E0 (tCons (tCB (rTupOf K) (tCons (tLc (iSeq K (tVar 0)) (gName 1) tYes (tIxA K (tVar 1) (tC (.int 0))) [1]) tNil)) tNil)))))
theorem sim_are_pairs : SimS (Wv P w K CA) (t_are_pairs P w K CA) (bo_are_pairs) := (simS_seq (simS_if (simT_or (simT_not (simT_of (sim_isi (t := .tuple) sim_var))) (simT_test (sim_bin (sim_comp (js := [1]) (vs := [1]) simI_var simG_name (by decide) (simT_or (simT_not (simT_of (sim_isi (t := .tuple) sim_var))) (simT_test (sim_bin (sim_blt (simA_cons sim_var simA_nil) sim_len) sim_int sim_ne))) sim_var) (sim_lst simA_nil) sim_ne))) (simS_ret sim_bl) simS_nil) (simS_seq (simS_if (simT_test (sim_bin (sim_comp (js := [1]) (vs := [1]) simI_var simG_name (by decide) (simT_not (simT_of (sim_call (dfl := []) (simA_cons (sim_ix sim_var sim_int) (simA_cons sim_int simA_nil)) rfl rfl))) sim_var) (sim_lst simA_nil) sim_ne)) (simS_ret sim_bl) simS_nil) (simS_ret (sim_call (dfl := []) (simA_cons (sim_blt (simA_cons (sim_comp (js := [1]) (vs := [1]) simI_var simG_name (by decide) simT_yes (sim_ix sim_var sim_int)) simA_nil) sim_tuple) simA_nil) rfl rfl))))
theorem ok_are_pairs (T : Fx K mg) {f : Addr} {fd : FuncData} (F : FnP K "are_pairs" "are_pairs" st_are_pairs [] f fd) (G_is_below : Kn P w K mg base 1 "is_below" ["part", "bound"] [] (spOf (Wv P w K CA) 2 ev_is_below)) (G_are_rising : Kn P w K mg base 2 "are_rising" ["files"] [] (spOf (Wv P w K CA) 1 ev_are_rising))  : FnOk P w K mg base CX0 3 f fd ["pairs"] (spOf (Wv P w K CA) 1 ev_are_pairs) := by
  have sc := sc_are_pairs
  refine fn_ok F sc fun cdv A outer s H E hr => ⟨t_are_pairs P w K CA, ?_, sim_are_pairs⟩
  exact (pss_cons (ps_if (PW.pt (pw_or (pt_not (pt_val (pe_callB call_isi (by rfl) T.b_isinstance bb_isinstance (pa_cons (pv 0) (pa_cons (pe_bltn (by rfl) T.b_tuple bb_tuple rfl) pa_nil))))) (pw_or1 (pt_cmpR (op_neD hr.units) (pe_lc (own := [("pair", 1)]) rfl sc.nd (pi_seq (pv 0)) (blkOk_by (by kernel_rfl)) (fun _ _ _ _ _ => (pg_name (i := 1) sc.nd rfl (by first | exact .inl rfl | exact .inr rfl))) (fun _ _ _ _ _ => (pts_one (PW.pt (pw_or (pt_not (pt_val (pe_callB call_isi (by rfl) T.b_isinstance bb_isinstance (pa_cons (pv 1) (pa_cons (pe_bltn (by rfl) T.b_tuple bb_tuple rfl) pa_nil))))) (pw_or1 (pt_cmpR (op_neD hr.units) (pe_callB call_lenA (by rfl) T.b_len bb_len (pa_cons (pv 1) pa_nil)) pe_int (nomark _))))))) (fun _ _ _ _ _ => (pv 1))) (pe_lst pa_nil) (nomark _))))) (pss_one (ps_ret pe_bl)) pss_nil) (pss_cons (ps_if (pt_cmpR (op_neD hr.units) (pe_lc (own := [("pair", 1)]) rfl sc.nd (pi_seq (pv 0)) (blkOk_by (by kernel_rfl)) (fun _ _ _ _ _ => (pg_name (i := 1) sc.nd rfl (by first | exact .inl rfl | exact .inr rfl))) (fun _ _ _ _ _ => (pts_one (pt_not (pt_val (pe_kn G_is_below (hr.mono (by omega)) (by rfl) (pa_cons (pe_ixA (hu_of hr) (pv 1) pe_int (fun _ _ => rfl)) (pa_cons (pe_gint T.c_WORTHS (by rfl)) pa_nil))))))) (fun _ _ _ _ _ => (pv 1))) (pe_lst pa_nil) (nomark _)) (pss_one (ps_ret pe_bl)) pss_nil) (pss_one (ps_ret (pe_kn G_are_rising (hr.mono (by omega)) (by rfl) (pa_cons (pe_callTy call_tuple_of (by rfl) T.b_tuple bb_tuple (pa_cons (pe_lc (own := [("pair", 1)]) rfl sc.nd (pi_seq (pv 0)) (blkOk_by (by kernel_rfl)) (fun _ _ _ _ _ => (pg_name (i := 1) sc.nd rfl (by first | exact .inl rfl | exact .inr rfl))) (fun _ _ _ _ _ => pts_nil) (fun _ _ _ _ _ => (pe_ixA (hu_of hr) (pv 1) pe_int (fun _ _ => rfl)))) pa_nil)) pa_nil))))))
abbrev st_is_deed : Stmt := top 11
def bo_is_deed : Sx := (sSeq (sIf (eOr (eUn gNot (eIsi .tuple (eVar 0))) (eBin gEq (eVar 0) (eTup []))) (sRet (eLit (.bl false))) sNil) (sSeq (sIf (eBin gEq (eBin gIx (eVar 0) (eLit (.int 0))) (eLit (.str "look"))) (sRet (eAnd (eBin gEq (eBlt gLen [(eVar 0)]) (eLit (.int 2))) (eCall ev_are_rising [] [(eBin gIx (eVar 0) (eLit (.int 1)))]))) sNil) (sSeq (sIf (eBin gIn (eBin gIx (eVar 0) (eLit (.int 0))) (eTup [(eLit (.str "put")), (eLit (.str "draft"))])) (sRet (eAnd (eBin gEq (eBlt gLen [(eVar 0)]) (eLit (.int 2))) (eCall ev_are_pairs [] [(eBin gIx (eVar 0) (eLit (.int 1)))]))) sNil) (sSeq (sIf (eBin gIn (eBin gIx (eVar 0) (eLit (.int 0))) (eTup [(eLit (.str "add")), (eLit (.str "wait"))])) (sRet (eAnd (eBin gEq (eBlt gLen [(eVar 0)]) (eLit (.int 3))) (eAnd (eCall ev_is_below [] [(eBin gIx (eVar 0) (eLit (.int 1))), (eLit (.int 10))]) (eCall ev_is_below [] [(eBin gIx (eVar 0) (eLit (.int 2))), (eLit (.int 1000))])))) sNil) (sSeq (sIf (eBin gEq (eBin gIx (eVar 0) (eLit (.int 0))) (eLit (.str "save"))) (sRet (eBin gEq (eBlt gLen [(eVar 0)]) (eLit (.int 1)))) sNil) (sSeq (sIf (eOr (eBin gNe (eBin gIx (eVar 0) (eLit (.int 0))) (eLit (.str "move"))) (eOr (eBin gNe (eBlt gLen [(eVar 0)]) (eLit (.int 4))) (eOr (eUn gNot (eCall ev_is_below [] [(eBin gIx (eVar 0) (eLit (.int 1))), (eLit (.int 10))])) (eUn gNot (eCall ev_is_below [] [(eBin gIx (eVar 0) (eLit (.int 2))), (eLit (.int 10))]))))) (sRet (eLit (.bl false))) sNil) (sRet (eAnd (eBin gNe (eBin gIx (eVar 0) (eLit (.int 1))) (eBin gIx (eVar 0) (eLit (.int 2)))) (eCall ev_is_below [] [(eBin gIx (eVar 0) (eLit (.int 3))), (eLit (.int 1000))])))))))))
def ev_is_deed : Ru := runOf 1 bo_is_deed
theorem sc_is_deed : FnScope ["deed"] ["deed"] (defScope st_is_deed) := ⟨rfl, rfl, rfl, by decide +kernel, rfl, by decide +kernel, by decide +kernel⟩
def t_is_deed (P : Program) (w : World) (K : PySem.W.Frag) (CA : Nat → Addr) : TS := (tSeq (tIfS (tOr (tNot (tB (tCB (rIsi K) (tCons (tVar 0) (tCons (tC (.ty "tuple")) tNil))))) (tTest (tOp (rEqD K) (tVar 0) (tTup tNil)))) (tRet (tC (.bl false))) tNext) (tSeq (tIfS (tTest (tOp (rEqD K) (tIxA K (tVar 0) (tC (.int 0))) (tC (.str "look")))) (tRet (tAndV (tOp (rEqD K) (tCB (rLenA K) (tCons (tVar 0) tNil)) (tC (.int 2))) (tCall (spOf (Wv P w K CA) 1 ev_are_rising) [] L2.E0 (tCons (tIxA K (tVar 0) (tC (.int 1))) tNil)))) tNext) (tSeq (tIfS (tTest (tOp (rInA K) (tIxA K (tVar 0) (tC (.int 0))) (tTup (tCons (tC (.str "put")) (tCons (tC (.str "draft")) tNil))))) (tRet (tAndV (tOp (rEqD K) (tCB (rLenA K) (tCons (tVar 0) tNil)) (tC (.int 2))) (tCall (spOf (Wv P w K CA) 1 ev_are_pairs) [] L2.E0 (tCons (tIxA K (tVar 0) (tC (.int 1))) tNil)))) tNext) (tSeq (tIfS (tTest (tOp (rInA K) (tIxA K (tVar 0) (tC (.int 0))) (tTup (tCons (tC (.str "add")) (tCons (tC (.str "wait")) tNil))))) (tRet (tAndV (tOp (rEqD K) (tCB (rLenA K) (tCons (tVar 0) tNil)) (tC (.int 3))) (tAndV (tCall (spOf (Wv P w K CA) 2 ev_is_below) [] L2.E0 (tCons (tIxA K (tVar 0) (tC (.int 1))) (tCons (tC (.int 10)) tNil))) (tCall (spOf (Wv P w K CA) 2 ev_is_below) [] L2.E0 (tCons (tIxA K (tVar 0) (tC (.int 2))) (tCons (tC (.int 1000)) tNil)))))) tNext) (tSeq (tIfS (tTest (tOp (rEqD K) (tIxA K (tVar 0) (tC (.int 0))) (tC (.str "save")))) (tRet (tOp (rEqD K) (tCB (rLenA K) (tCons (tVar 0) tNil)) (tC (.int 1)))) tNext) (tSeq (tIfS (tOr (tTest (tOp (rNeD K) (tIxA K (tVar 0) (tC (.int 0))) (tC (.str "move")))) (tOr (tTest (tOp (rNeD K) (tCB (rLenA K) (tCons (tVar 0) tNil)) (tC (.int 4)))) (tOr (tNot (tB (tCall (spOf (Wv P w K CA) 2 ev_is_below) [] L2.E0 (tCons (tIxA K (tVar 0) (tC (.int 1))) (tCons (tC (.int 10)) tNil))))) (tNot (tB (tCall (spOf (Wv P w K CA) 2 ev_is_below) [] L2.E0 (tCons (tIxA K (tVar 0) (tC (.int 2))) (tCons (tC (.int 10)) tNil)))))))) (tRet (tC (.bl false))) tNext) (tRet (tAndV (tOp (rNeD K) (tIxA K (tVar 0) (tC (.int 1))) (tIxA K (tVar 0) (tC (.int 2)))) (tCall (spOf (Wv P w K CA) 2 ev_is_below) [] L2.E0 (tCons (tIxA K (tVar 0) (tC (.int 3))) (tCons (tC (.int 1000)) tNil)))))))))))
theorem sim_is_deed : SimS (Wv P w K CA) (t_is_deed P w K CA) (bo_is_deed) := (simS_seq (simS_if (simT_or (simT_not (simT_of (sim_isi (t := .tuple) sim_var))) (simT_test (sim_bin sim_var (sim_tup simA_nil) sim_eq))) (simS_ret sim_bl) simS_nil) (simS_seq (simS_if (simT_test (sim_bin (sim_ix sim_var sim_int) sim_str sim_eq)) (simS_ret (sim_and (sim_bin (sim_blt (simA_cons sim_var simA_nil) sim_len) sim_int sim_eq) (sim_call (dfl := []) (simA_cons (sim_ix sim_var sim_int) simA_nil) rfl rfl))) simS_nil) (simS_seq (simS_if (simT_test (sim_bin (sim_ix sim_var sim_int) (sim_tup (simA_cons sim_str (simA_cons sim_str simA_nil))) sim_in)) (simS_ret (sim_and (sim_bin (sim_blt (simA_cons sim_var simA_nil) sim_len) sim_int sim_eq) (sim_call (dfl := []) (simA_cons (sim_ix sim_var sim_int) simA_nil) rfl rfl))) simS_nil) (simS_seq (simS_if (simT_test (sim_bin (sim_ix sim_var sim_int) (sim_tup (simA_cons sim_str (simA_cons sim_str simA_nil))) sim_in)) (simS_ret (sim_and (sim_bin (sim_blt (simA_cons sim_var simA_nil) sim_len) sim_int sim_eq) (sim_and (sim_call (dfl := []) (simA_cons (sim_ix sim_var sim_int) (simA_cons sim_int simA_nil)) rfl rfl) (sim_call (dfl := []) (simA_cons (sim_ix sim_var sim_int) (simA_cons sim_int simA_nil)) rfl rfl)))) simS_nil) (simS_seq (simS_if (simT_test (sim_bin (sim_ix sim_var sim_int) sim_str sim_eq)) (simS_ret (sim_bin (sim_blt (simA_cons sim_var simA_nil) sim_len) sim_int sim_eq)) simS_nil) (simS_seq (simS_if (simT_or (simT_test (sim_bin (sim_ix sim_var sim_int) sim_str sim_ne)) (simT_or (simT_test (sim_bin (sim_blt (simA_cons sim_var simA_nil) sim_len) sim_int sim_ne)) (simT_or (simT_not (simT_of (sim_call (dfl := []) (simA_cons (sim_ix sim_var sim_int) (simA_cons sim_int simA_nil)) rfl rfl))) (simT_not (simT_of (sim_call (dfl := []) (simA_cons (sim_ix sim_var sim_int) (simA_cons sim_int simA_nil)) rfl rfl)))))) (simS_ret sim_bl) simS_nil) (simS_ret (sim_and (sim_bin (sim_ix sim_var sim_int) (sim_ix sim_var sim_int) sim_ne) (sim_call (dfl := []) (simA_cons (sim_ix sim_var sim_int) (simA_cons sim_int simA_nil)) rfl rfl)))))))))
theorem ok_is_deed (T : Fx K mg) {f : Addr} {fd : FuncData} (F : FnP K "is_deed" "is_deed" st_is_deed [] f fd) (G_are_rising : Kn P w K mg base 2 "are_rising" ["files"] [] (spOf (Wv P w K CA) 1 ev_are_rising)) (G_are_pairs : Kn P w K mg base 3 "are_pairs" ["pairs"] [] (spOf (Wv P w K CA) 1 ev_are_pairs)) (G_is_below : Kn P w K mg base 1 "is_below" ["part", "bound"] [] (spOf (Wv P w K CA) 2 ev_is_below))  : FnOk P w K mg base CX0 4 f fd ["deed"] (spOf (Wv P w K CA) 1 ev_is_deed) := by
  have sc := sc_is_deed
  refine fn_ok F sc fun cdv A outer s H E hr => ⟨t_is_deed P w K CA, ?_, sim_is_deed⟩
  exact (pss_cons (ps_if (PW.pt (pw_or (pt_not (pt_val (pe_callB call_isi (by rfl) T.b_isinstance bb_isinstance (pa_cons (pv 0) (pa_cons (pe_bltn (by rfl) T.b_tuple bb_tuple rfl) pa_nil))))) (pw_or1 (pt_cmpR (op_eqD hr.units) (pv 0) (pe_tup pa_nil) (nomark _))))) (pss_one (ps_ret pe_bl)) pss_nil) (pss_cons (ps_if (pt_cmpR (op_eqD hr.units) (pe_ixA (hu_of hr) (pv 0) pe_int (fun _ _ => rfl)) pe_str (nomark _)) (pss_one (ps_ret (pe_and (pe_cmpR (op_eqD hr.units) (pe_callB call_lenA (by rfl) T.b_len bb_len (pa_cons (pv 0) pa_nil)) pe_int (nomark _)) (pe_one (pe_kn G_are_rising (hr.mono (by omega)) (by rfl) (pa_cons (pe_ixA (hu_of hr) (pv 0) pe_int (fun _ _ => rfl)) pa_nil)))))) pss_nil) (pss_cons (ps_if (pt_cmpR (op_inA (u65 hr)) (pe_ixA (hu_of hr) (pv 0) pe_int (fun _ _ => rfl)) (pe_tup (pa_cons pe_str (pa_cons pe_str pa_nil))) (by rfl)) (pss_one (ps_ret (pe_and (pe_cmpR (op_eqD hr.units) (pe_callB call_lenA (by rfl) T.b_len bb_len (pa_cons (pv 0) pa_nil)) pe_int (nomark _)) (pe_one (pe_kn G_are_pairs (hr.mono (by omega)) (by rfl) (pa_cons (pe_ixA (hu_of hr) (pv 0) pe_int (fun _ _ => rfl)) pa_nil)))))) pss_nil) (pss_cons (ps_if (pt_cmpR (op_inA (u65 hr)) (pe_ixA (hu_of hr) (pv 0) pe_int (fun _ _ => rfl)) (pe_tup (pa_cons pe_str (pa_cons pe_str pa_nil))) (by rfl)) (pss_one (ps_ret (pe_and (pe_cmpR (op_eqD hr.units) (pe_callB call_lenA (by rfl) T.b_len bb_len (pa_cons (pv 0) pa_nil)) pe_int (nomark _)) (pe_and (pe_kn G_is_below (hr.mono (by omega)) (by rfl) (pa_cons (pe_ixA (hu_of hr) (pv 0) pe_int (fun _ _ => rfl)) (pa_cons (pe_gint T.c_FILES (by rfl)) pa_nil))) (pe_one (pe_kn G_is_below (hr.mono (by omega)) (by rfl) (pa_cons (pe_ixA (hu_of hr) (pv 0) pe_int (fun _ _ => rfl)) (pa_cons (pe_gint T.c_WORTHS (by rfl)) pa_nil)))))))) pss_nil) (pss_cons (ps_if (pt_cmpR (op_eqD hr.units) (pe_ixA (hu_of hr) (pv 0) pe_int (fun _ _ => rfl)) pe_str (nomark _)) (pss_one (ps_ret (pe_cmpR (op_eqD hr.units) (pe_callB call_lenA (by rfl) T.b_len bb_len (pa_cons (pv 0) pa_nil)) pe_int (nomark _)))) pss_nil) (pss_cons (ps_if (PW.pt (pw_or (pt_cmpR (op_neD hr.units) (pe_ixA (hu_of hr) (pv 0) pe_int (fun _ _ => rfl)) pe_str (nomark _)) (pw_or (pt_cmpR (op_neD hr.units) (pe_callB call_lenA (by rfl) T.b_len bb_len (pa_cons (pv 0) pa_nil)) pe_int (nomark _)) (pw_or (pt_not (pt_val (pe_kn G_is_below (hr.mono (by omega)) (by rfl) (pa_cons (pe_ixA (hu_of hr) (pv 0) pe_int (fun _ _ => rfl)) (pa_cons (pe_gint T.c_FILES (by rfl)) pa_nil))))) (pw_or1 (pt_not (pt_val (pe_kn G_is_below (hr.mono (by omega)) (by rfl) (pa_cons (pe_ixA (hu_of hr) (pv 0) pe_int (fun _ _ => rfl)) (pa_cons (pe_gint T.c_FILES (by rfl)) pa_nil)))))))))) (pss_one (ps_ret pe_bl)) pss_nil) (pss_one (ps_ret (pe_and (pe_cmpR (op_neD hr.units) (pe_ixA (hu_of hr) (pv 0) pe_int (fun _ _ => rfl)) (pe_ixA (hu_of hr) (pv 0) pe_int (fun _ _ => rfl)) (nomark _)) (pe_one (pe_kn G_is_below (hr.mono (by omega)) (by rfl) (pa_cons (pe_ixA (hu_of hr) (pv 0) pe_int (fun _ _ => rfl)) (pa_cons (pe_gint T.c_WORTHS (by rfl)) pa_nil)))))))))))))
abbrev st_is_plain : Stmt := top 12
def bo_is_plain : Sx := (sRet (eAnd (eCall ev_is_deed [] [(eVar 0)]) (eBin gIn (eBin gIx (eVar 0) (eLit (.int 0))) (eCst [.str "look", .str "put", .str "add", .str "move"]))))
def ev_is_plain : Ru := runOf 1 bo_is_plain
theorem sc_is_plain : FnScope ["deed"] ["deed"] (defScope st_is_plain) := ⟨rfl, rfl, rfl, by decide +kernel, rfl, by decide +kernel, by decide +kernel⟩
def t_is_plain (P : Program) (w : World) (K : PySem.W.Frag) (CA : Nat → Addr) : TS := (tRet (tAndV (tCall (spOf (Wv P w K CA) 1 ev_is_deed) [] L2.E0 (tCons (tVar 0) tNil)) (tOp (rInA K) (tIxA K (tVar 0) (tC (.int 0))) (tWr K [.str "look", .str "put", .str "add", .str "move"]))))
theorem sim_is_plain : SimS (Wv P w K CA) (t_is_plain P w K CA) (bo_is_plain) := (simS_ret (sim_and (sim_call (dfl := []) (simA_cons sim_var simA_nil) rfl rfl) (sim_bin (sim_ix sim_var sim_int) (sim_cst rfl) sim_in)))
theorem ok_is_plain (T : Fx K mg) {f : Addr} {fd : FuncData} (F : FnP K "is_plain" "is_plain" st_is_plain [] f fd) (G_is_deed : Kn P w K mg base 4 "is_deed" ["deed"] [] (spOf (Wv P w K CA) 1 ev_is_deed))  : FnOk P w K mg base CX0 5 f fd ["deed"] (spOf (Wv P w K CA) 1 ev_is_plain) := by
  have sc := sc_is_plain
  refine fn_ok F sc fun cdv A outer s H E hr => ⟨t_is_plain P w K CA, ?_, sim_is_plain⟩
  exact (pss_one (ps_ret (pe_and (pe_kn G_is_deed (hr.mono (by omega)) (by rfl) (pa_cons (pv 0) pa_nil)) (pe_one (pe_cmpR (op_inA (u65 hr)) (pe_ixA (hu_of hr) (pv 0) pe_int (fun _ _ => rfl)) (pe_gtup T.c_PLAIN (by rfl)) (by rfl))))))
abbrev st_is_row : Stmt := top 18
def bo_is_row : Sx := (sSeq (sIf (eOr (eUn gNot (eIsi .tuple (eVar 0))) (eOr (eBin gNe (eBlt gLen [(eVar 0)]) (eLit (.int 5))) (eUn gNot (eCall ev_is_plain [] [(eBin gIx (eVar 0) (eLit (.int 1)))])))) (sRet (eLit (.bl false))) sNil) (sSeq (sUnp [1, 2, 3, 4, 5] (eVar 0)) (sSeq (sIf (eOr (eUn gNot (eCall ev_is_below [] [(eVar 1), (eLit (.int 100))])) (eUn gNot (eCall ev_is_below [] [(eVar 3), (eLit (.int 10000))]))) (sRet (eLit (.bl false))) sNil) (sSeq (sIf (eUn gIsN (eVar 4)) (sRet (eUn gIsN (eVar 5))) sNil) (sRet (eAnd (eCall ev_is_below [] [(eVar 4), (eLit (.int 10000))]) (eAnd (eBin gLt (eVar 3) (eVar 4)) (eCall ev_is_answer [] [(eVar 2), (eVar 5)]))))))))
def ev_is_row : Ru := runOf 6 bo_is_row
theorem sc_is_row : FnScope ["row", "user", "deed", "begin", "end", "answer"] ["row"] (defScope st_is_row) := ⟨rfl, rfl, rfl, by decide +kernel, rfl, by decide +kernel, by decide +kernel⟩
def t_is_row (P : Program) (w : World) (K : PySem.W.Frag) (CA : Nat → Addr) : TS := (tSeq (tIfS (tOr (tNot (tB (tCB (rIsi K) (tCons (tVar 0) (tCons (tC (.ty "tuple")) tNil))))) (tOr (tTest (tOp (rNeD K) (tCB (rLenA K) (tCons (tVar 0) tNil)) (tC (.int 5)))) (tNot (tB (tCall (spOf (Wv P w K CA) 1 ev_is_plain) [] L2.E0 (tCons (tIxA K (tVar 0) (tC (.int 1))) tNil)))))) (tRet (tC (.bl false))) tNext) (tSeq (tAsg (tVar 0) (gUnp K [1, 2, 3, 4, 5])) (tSeq (tIfS (tOr (tNot (tB (tCall (spOf (Wv P w K CA) 2 ev_is_below) [] L2.E0 (tCons (tVar 1) (tCons (tC (.int 100)) tNil))))) (tNot (tB (tCall (spOf (Wv P w K CA) 2 ev_is_below) [] L2.E0 (tCons (tVar 3) (tCons (tC (.int 10000)) tNil)))))) (tRet (tC (.bl false))) tNext) (tSeq (tIfS (tB (tIsN (tVar 4))) (tRet (tIsN (tVar 5))) tNext) (tRet (tAndV (tCall (spOf (Wv P w K CA) 2 ev_is_below) [] L2.E0 (tCons (tVar 4) (tCons (tC (.int 10000)) tNil))) (tAndV (tOp rLtI (tVar 3) (tVar 4)) (tCall (spOf (Wv P w K CA) 2 ev_is_answer) [] L2.E0 (tCons (tVar 2) (tCons (tVar 5) tNil))))))))))
theorem sim_is_row : SimS (Wv P w K CA) (t_is_row P w K CA) (bo_is_row) := (simS_seq (simS_if (simT_or (simT_not (simT_of (sim_isi (t := .tuple) sim_var))) (simT_or (simT_test (sim_bin (sim_blt (simA_cons sim_var simA_nil) sim_len) sim_int sim_ne)) (simT_not (simT_of (sim_call (dfl := []) (simA_cons (sim_ix sim_var sim_int) simA_nil) rfl rfl))))) (simS_ret sim_bl) simS_nil) (simS_seq (simS_unp sim_var) (simS_seq (simS_if (simT_or (simT_not (simT_of (sim_call (dfl := []) (simA_cons sim_var (simA_cons sim_int simA_nil)) rfl rfl))) (simT_not (simT_of (sim_call (dfl := []) (simA_cons sim_var (simA_cons sim_int simA_nil)) rfl rfl)))) (simS_ret sim_bl) simS_nil) (simS_seq (simS_if (simT_of (sim_isN sim_var)) (simS_ret (sim_isN sim_var)) simS_nil) (simS_ret (sim_and (sim_call (dfl := []) (simA_cons sim_var (simA_cons sim_int simA_nil)) rfl rfl) (sim_and (sim_bin sim_var sim_var sim_lt) (sim_call (dfl := []) (simA_cons sim_var (simA_cons sim_var simA_nil)) rfl rfl))))))))
theorem ok_is_row (T : Fx K mg) {f : Addr} {fd : FuncData} (F : FnP K "is_row" "is_row" st_is_row [] f fd) (G_is_plain : Kn P w K mg base 5 "is_plain" ["deed"] [] (spOf (Wv P w K CA) 1 ev_is_plain)) (G_is_below : Kn P w K mg base 1 "is_below" ["part", "bound"] [] (spOf (Wv P w K CA) 2 ev_is_below)) (G_is_answer : Kn P w K mg base 2 "is_answer" ["deed", "answer"] [] (spOf (Wv P w K CA) 2 ev_is_answer))  : FnOk P w K mg base CX0 6 f fd ["row"] (spOf (Wv P w K CA) 1 ev_is_row) := by
  have sc := sc_is_row
  refine fn_ok F sc fun cdv A outer s H E hr => ⟨t_is_row P w K CA, ?_, sim_is_row⟩
  exact (pss_cons (ps_if (PW.pt (pw_or (pt_not (pt_val (pe_callB call_isi (by rfl) T.b_isinstance bb_isinstance (pa_cons (pv 0) (pa_cons (pe_bltn (by rfl) T.b_tuple bb_tuple rfl) pa_nil))))) (pw_or (pt_cmpR (op_neD hr.units) (pe_callB call_lenA (by rfl) T.b_len bb_len (pa_cons (pv 0) pa_nil)) pe_int (nomark _)) (pw_or1 (pt_not (pt_val (pe_kn G_is_plain (hr.mono (by omega)) (by rfl) (pa_cons (pe_ixA (hu_of hr) (pv 0) pe_int (fun _ _ => rfl)) pa_nil)))))))) (pss_one (ps_ret pe_bl)) pss_nil) (pss_cons (ps_asg (pv 0) (pg_unp (is := [1, 2, 3, 4, 5]) (by rfl) (pgs_cons (pg_name (i := 1) sc.nd rfl (by first | exact .inl rfl | exact .inr rfl)) (pgs_cons (pg_name (i := 2) sc.nd rfl (by first | exact .inl rfl | exact .inr rfl)) (pgs_cons (pg_name (i := 3) sc.nd rfl (by first | exact .inl rfl | exact .inr rfl)) (pgs_cons (pg_name (i := 4) sc.nd rfl (by first | exact .inl rfl | exact .inr rfl)) (pgs_cons (pg_name (i := 5) sc.nd rfl (by first | exact .inl rfl | exact .inr rfl)) pgs_nil))))))) (pss_cons (ps_if (PW.pt (pw_or (pt_not (pt_val (pe_kn G_is_below (hr.mono (by omega)) (by rfl) (pa_cons (pv 1) (pa_cons (pe_gint T.c_USERS (by rfl)) pa_nil))))) (pw_or1 (pt_not (pt_val (pe_kn G_is_below (hr.mono (by omega)) (by rfl) (pa_cons (pv 3) (pa_cons (pe_gint T.c_MOMENTS (by rfl)) pa_nil)))))))) (pss_one (ps_ret pe_bl)) pss_nil) (pss_cons (ps_if (pt_cmp (pc_isN (pv 4)) rfl) (pss_one (ps_ret (pe_cmp (pc_isN (pv 5)) rfl))) pss_nil) (pss_one (ps_ret (pe_and (pe_kn G_is_below (hr.mono (by omega)) (by rfl) (pa_cons (pv 4) (pa_cons (pe_gint T.c_MOMENTS (by rfl)) pa_nil))) (pe_and (pe_cmpR op_lt (pv 3) (pv 4) (nomark _)) (pe_one (pe_kn G_is_answer (hr.mono (by omega)) (by rfl) (pa_cons (pv 2) (pa_cons (pv 5) pa_nil))))))))))))
abbrev st_need_history : Stmt := top 19
def bd_need_history_1 : Sx := (sSeq (sIf (eOr (eBin gGe (eVar 2) (eLit (.int 12))) (eUn gNot (eCall ev_is_row [] [(eVar 3)]))) sFail sNil) (sSeq (sIf (eAnd (eBin gIn (eBin gIx (eVar 3) (eLit (.int 0))) (eVar 1)) (eBin gGe (eBin gIx (eVar 1) (eBin gIx (eVar 3) (eLit (.int 0)))) (eBin gIx (eVar 3) (eLit (.int 2))))) sFail sNil) (sSetV 1 (eBin gIx (eVar 3) (eLit (.int 0))) (eIf (eUn gIsN (eBin gIx (eVar 3) (eLit (.int 3)))) (eBin gIx (eVar 3) (eLit (.int 2))) (eBin gIx (eVar 3) (eLit (.int 3)))))))
def bo_need_history : Sx := (sSeq (sAsg 1 (eDNew .K)) (sFor (fEnumV 0) (tgTup [2, 3]) bd_need_history_1))
def ev_need_history : Ru := runOf 4 bo_need_history
theorem sc_need_history : FnScope ["rows", "ends", "number", "row"] ["rows"] (defScope st_need_history) := ⟨rfl, rfl, rfl, by decide +kernel, rfl, by decide +kernel, by decide +kernel⟩
def t_need_history (P : Program) (w : World) (K : PySem.W.Frag) (CA : Nat → Addr) : TS := (tSeq (tAsg tDNewK (gName 1)) (tFor (iEnum K (tCons (tVar 0) tNil)) (gTup K 2 (gNames [2, 3])) (tSeq (tIfS (tOr (tTest (tOp rGeI (tVar 2) (tC (.int 12)))) (tNot (tB (tCall (spOf (Wv P w K CA) 1 ev_is_row) [] L2.E0 (tCons (tVar 3) tNil))))) tNever tNext) (tSeq (tIfS (tAnd (tTest (tOp (rInA K) (tIxA K (tVar 3) (tC (.int 0))) (tVar 1))) (tTest (tOp rGeI (tIxA K (tVar 1) (tIxA K (tVar 3) (tC (.int 0)))) (tIxA K (tVar 3) (tC (.int 2)))))) tNever tNext) (tSet (tVar 1) (tIxA K (tVar 3) (tC (.int 0))) (tIf (tB (tIsN (tIxA K (tVar 3) (tC (.int 3))))) (tIxA K (tVar 3) (tC (.int 2))) (tIxA K (tVar 3) (tC (.int 3)))))))))
theorem sim_need_history : SimS (Wv P w K CA) (t_need_history P w K CA) (bo_need_history) := (simS_seq (simS_asg sim_dnewK) (simS_for simI_enumV (tg_tup (is := [2, 3])) (simS_seq (simS_if (simT_or (simT_test (sim_bin sim_var sim_int sim_ge)) (simT_not (simT_of (sim_call (dfl := []) (simA_cons sim_var simA_nil) rfl rfl)))) simS_fail simS_nil) (simS_seq (simS_if (simT_and (simT_test (sim_bin (sim_ix sim_var sim_int) sim_var sim_in)) (simT_test (sim_bin (sim_ix sim_var (sim_ix sim_var sim_int)) (sim_ix sim_var sim_int) sim_ge))) simS_fail simS_nil) (simS_setV (sim_ix sim_var sim_int) (sim_if (simT_of (sim_isN (sim_ix sim_var sim_int))) (sim_ix sim_var sim_int) (sim_ix sim_var sim_int)))))))
theorem ok_need_history (T : Fx K mg) {f : Addr} {fd : FuncData} (F : FnP K "need_history" "need_history" st_need_history [] f fd) (G_is_row : Kn P w K mg base 6 "is_row" ["row"] [] (spOf (Wv P w K CA) 1 ev_is_row))  : FnOk P w K mg base CX0 7 f fd ["rows"] (spOf (Wv P w K CA) 1 ev_need_history) := by
  have sc := sc_need_history
  refine fn_ok F sc fun cdv A outer s H E hr => ⟨t_need_history P w K CA, ?_, sim_need_history⟩
  exact (pss_cons (ps_set (i := 1) sc.nd rfl (by first | exact .inl rfl | exact .inr rfl) pe_dnewK) (pss_one (ps_for PassesOwn.never rfl (pi_enum (by rfl) T.b_enumerate (pa_cons (pv 0) pa_nil)) (pg_tup (by rfl) (pgs_cons (pg_name (i := 2) sc.nd rfl (by first | exact .inl rfl | exact .inr rfl)) (pgs_cons (pg_name (i := 3) sc.nd rfl (by first | exact .inl rfl | exact .inr rfl)) pgs_nil))) (pss_cons (ps_if (PW.pt (pw_or (pt_cmpR op_ge (pv 2) (pe_gint T.c_MOST_ROWS (by rfl)) (nomark _)) (pw_or1 (pt_not (pt_val (pe_kn G_is_row (hr.mono (by omega)) (by rfl) (pa_cons (pv 3) pa_nil))))))) (pss_one ps_never) pss_nil) (pss_cons (ps_if (PW.pt (pw_and (pt_cmpR (op_inA (u65 hr)) (pe_ixA (hu_of hr) (pv 3) pe_int (fun _ _ => rfl)) (pv 1) (by rfl)) (pw_and1 (pt_cmpR op_ge (pe_ixA (hu_of hr) (pv 1) (pe_ixA (hu_of hr) (pv 3) pe_int (fun _ _ => rfl)) (fun _ _ => rfl)) (pe_ixA (hu_of hr) (pv 3) pe_int (fun _ _ => rfl)) (nomark _))))) (pss_one ps_never) pss_nil) (pss_one (ps_set3 (u16 hr) (pv 1) (pe_ixA (hu_of hr) (pv 3) pe_int (fun _ _ => rfl)) (pe_ifExp (pt_cmp (pc_isN (pe_ixA (hu_of hr) (pv 3) pe_int (fun _ _ => rfl))) rfl) (pe_ixA (hu_of hr) (pv 3) pe_int (fun _ _ => rfl)) (pe_ixA (hu_of hr) (pv 3) pe_int (fun _ _ => rfl))))))))))
abbrev st_may_be_next : Stmt := top 20
def bo_may_be_next : Sx := (sSeq (sAsg 2 (eComp (fVar 1) (tgName 3) [3] (eUn gNotN (eBin gIx (eBin gIx (eVar 0) (eVar 3)) (eLit (.int 3)))) (eBin gIx (eBin gIx (eVar 0) (eVar 3)) (eLit (.int 3))))) (sRet (eComp (fVar 1) (tgName 3) [3] (eBin gEq (eComp (fVar 2) (tgName 4) [4] (eBin gLt (eVar 4) (eBin gIx (eBin gIx (eVar 0) (eVar 3)) (eLit (.int 2)))) (eVar 4)) (eLst [])) (eVar 3))))
def ev_may_be_next : Ru := runOf 5 bo_may_be_next
theorem sc_may_be_next : FnScope ["rows", "left", "ends", "number", "end"] ["rows", "left"] (defScope st_may_be_next) := ⟨rfl, rfl, rfl, by decide +kernel, rfl, by decide +kernel, by decide +kernel⟩
def t_may_be_next (P : Program) (w : World) (K : PySem.W.Frag) (CA : Nat → Addr) : TS := (tSeq (tAsg (tLc (iSeq K (tVar 1)) (gName 3) (tB (tNotN (tIxA K (tIxA K (tVar 0) (tVar 3)) (tC (.int 3))))) (tIxA K (tIxA K (tVar 0) (tVar 3)) (tC (.int 3))) [3]) (gName 2)) (tRet (tLc (iSeq K (tVar 1)) (gName 3) (tTest (tOp (rEqD K) (tLc (iSeq K (tVar 2)) (gName 4) (tTest (tOp rLtI (tVar 4) (tIxA K (tIxA K (tVar 0) (tVar 3)) (tC (.int 2))))) (tVar 4) [4]) (tLst tNil))) (tVar 3) [3])))
theorem sim_may_be_next : SimS (Wv P w K CA) (t_may_be_next P w K CA) (bo_may_be_next) := (simS_seq (simS_asg (sim_comp (js := [3]) (vs := [3]) simI_var simG_name (by decide) (simT_of (sim_notN (sim_ix (sim_ix sim_var sim_var) sim_int))) (sim_ix (sim_ix sim_var sim_var) sim_int))) (simS_ret (sim_comp (js := [3]) (vs := [3]) simI_var simG_name (by decide) (simT_test (sim_bin (sim_comp (js := [4]) (vs := [4]) simI_var simG_name (by decide) (simT_test (sim_bin sim_var (sim_ix (sim_ix sim_var sim_var) sim_int) sim_lt)) sim_var) (sim_lst simA_nil) sim_eq)) sim_var)))
theorem ok_may_be_next (T : Fx K mg) {f : Addr} {fd : FuncData} (F : FnP K "may_be_next" "may_be_next" st_may_be_next [] f fd)   : FnOk P w K mg base CX0 1 f fd ["rows", "left"] (spOf (Wv P w K CA) 2 ev_may_be_next) := by
  have sc := sc_may_be_next
  refine fn_ok F sc fun cdv A outer s H E hr => ⟨t_may_be_next P w K CA, ?_, sim_may_be_next⟩
  exact (pss_cons (ps_set (i := 2) sc.nd rfl (by first | exact .inl rfl | exact .inr rfl) (pe_lc (own := [("number", 3)]) rfl sc.nd (pi_seq (pv 1)) (blkOk_by (by kernel_rfl)) (fun _ _ _ _ _ => (pg_name (i := 3) sc.nd rfl (by first | exact .inl rfl | exact .inr rfl))) (fun _ _ _ _ _ => (pts_one (pt_cmp (pc_notN (pe_ixA (hu_of hr) (pe_ixA (hu_of hr) (pv 0) (pv 3) (fun _ _ => rfl)) pe_int (fun _ _ => rfl))) rfl))) (fun _ _ _ _ _ => (pe_ixA (hu_of hr) (pe_ixA (hu_of hr) (pv 0) (pv 3) (fun _ _ => rfl)) pe_int (fun _ _ => rfl))))) (pss_one (ps_ret (pe_lc (own := [("number", 3)]) rfl sc.nd (pi_seq (pv 1)) (blkOk_by (by kernel_rfl)) (fun _ _ _ _ _ => (pg_name (i := 3) sc.nd rfl (by first | exact .inl rfl | exact .inr rfl))) (fun _ _ _ _ _ => (pts_one (pt_cmpR (op_eqD hr.units) (pe_lc (own := [("end", 4)]) rfl sc.nd (pi_seq (pv 2)) (blkOk_by (by kernel_rfl)) (fun _ _ _ _ _ => (pg_name (i := 4) sc.nd rfl (by first | exact .inl rfl | exact .inr rfl))) (fun _ _ _ _ _ => (pts_one (pt_cmpR op_lt (pv 4) (pe_ixA (hu_of hr) (pe_ixA (hu_of hr) (pv 0) (pv 3) (fun _ _ => rfl)) pe_int (fun _ _ => rfl)) (nomark _)))) (fun _ _ _ _ _ => (pv 4))) (pe_lst pa_nil) (nomark _)))) (fun _ _ _ _ _ => (pv 3))))))
abbrev st_done : Stmt := top 13
def bd_done_1 : Sx := (sSetV 2 (eVar 7) (eVar 8))
def bo_done : Sx := (sSeq (sAsg 2 (eBlt gList [(eVar 0)])) (sSeq (sIf (eBin gEq (eBin gIx (eVar 1) (eLit (.int 0))) (eLit (.str "look"))) (sRet (eTup [(eBlt gTuple [(eComp (fSeq (eBin gIx (eVar 1) (eLit (.int 1)))) (tgName 7) [7] eTrue (eBin gIx (eVar 0) (eVar 7)))]), (eVar 0)])) sNil) (sSeq (sIf (eBin gIn (eBin gIx (eVar 1) (eLit (.int 0))) (eTup [(eLit (.str "put")), (eLit (.str "draft"))])) (sSeq (sFor (fSeq (eBin gIx (eVar 1) (eLit (.int 1)))) (tgTup [7, 8]) bd_done_1) (sRet (eTup [(eBlt gTuple [(eComp (fSeq (eBin gIx (eVar 1) (eLit (.int 1)))) (tgTup [7, 8]) [7, 8] eTrue (eBin gIx (eVar 0) (eVar 7)))]), (eBlt gTuple [(eVar 2)])]))) sNil) (sSeq (sIf (eBin gEq (eBin gIx (eVar 1) (eLit (.int 0))) (eLit (.str "add"))) (sSeq (sSetV 2 (eBin gIx (eVar 1) (eLit (.int 1))) (eBin gMod (eBin gAdd (eBin gIx (eVar 0) (eBin gIx (eVar 1) (eLit (.int 1)))) (eBin gIx (eVar 1) (eLit (.int 2)))) (eLit (.int 1000)))) (sRet (eTup [(eBin gIx (eVar 2) (eBin gIx (eVar 1) (eLit (.int 1)))), (eBlt gTuple [(eVar 2)])]))) sNil) (sSeq (sUnp [3, 4, 5, 6] (eVar 1)) (sSeq (sIf (eOr (eBin gLt (eBin gIx (eVar 0) (eVar 4)) (eVar 6)) (eBin gGe (eBin gAdd (eBin gIx (eVar 0) (eVar 5)) (eVar 6)) (eLit (.int 1000)))) (sRet (eTup [(eLit (.bl false)), (eVar 0)])) sNil) (sSeq (sSetV 2 (eVar 4) (eBin Ev.gSub (eBin gIx (eVar 0) (eVar 4)) (eVar 6))) (sSeq (sSetV 2 (eVar 5) (eBin gAdd (eBin gIx (eVar 0) (eVar 5)) (eVar 6))) (sRet (eTup [(eLit (.bl true)), (eBlt gTuple [(eVar 2)])]))))))))))
def ev_done : Ru := runOf 9 bo_done
theorem sc_done : FnScope ["worths", "deed", "found", "word", "one", "other", "many", "number", "worth"] ["worths", "deed"] (defScope st_done) := ⟨rfl, rfl, rfl, by decide +kernel, rfl, by decide +kernel, by decide +kernel⟩
def t_done (P : Program) (w : World) (K : PySem.W.Frag) (CA : Nat → Addr) : TS := (tSeq (tAsg (tCB (rListOf K) (tCons (tVar 0) tNil)) (gName 2)) (tSeq (tIfS (tTest (tOp (rEqD K) (tIxA K (tVar 1) (tC (.int 0))) (tC (.str "look")))) (tRet (tTup (tCons (tCB (rTupOf K) (tCons (tLc (iSeq K (tIxA K (tVar 1) (tC (.int 1)))) (gName 7) tYes (tIxA K (tVar 0) (tVar 7)) [7]) tNil)) (tCons (tVar 0) tNil)))) tNext) (tSeq (tIfS (tTest (tOp (rInA K) (tIxA K (tVar 1) (tC (.int 0))) (tTup (tCons (tC (.str "put")) (tCons (tC (.str "draft")) tNil))))) (tSeq (tFor (iSeq K (tIxA K (tVar 1) (tC (.int 1)))) (gTup K 2 (gNames [7, 8])) (tSet (tVar 2) (tVar 7) (tVar 8))) (tRet (tTup (tCons (tCB (rTupOf K) (tCons (tLc (iSeq K (tIxA K (tVar 1) (tC (.int 1)))) (gTup K 2 (gNames [7, 8])) tYes (tIxA K (tVar 0) (tVar 7)) [7, 8]) tNil)) (tCons (tCB (rTupOf K) (tCons (tVar 2) tNil)) tNil))))) tNext) (tSeq (tIfS (tTest (tOp (rEqD K) (tIxA K (tVar 1) (tC (.int 0))) (tC (.str "add")))) (tSeq (tSet (tVar 2) (tIxA K (tVar 1) (tC (.int 1))) (tOp rModI (tOp (rAddA K) (tIxA K (tVar 0) (tIxA K (tVar 1) (tC (.int 1)))) (tIxA K (tVar 1) (tC (.int 2)))) (tC (.int 1000)))) (tRet (tTup (tCons (tIxA K (tVar 2) (tIxA K (tVar 1) (tC (.int 1)))) (tCons (tCB (rTupOf K) (tCons (tVar 2) tNil)) tNil))))) tNext) (tSeq (tAsg (tVar 1) (gUnp K [3, 4, 5, 6])) (tSeq (tIfS (tOr (tTest (tOp rLtI (tIxA K (tVar 0) (tVar 4)) (tVar 6))) (tTest (tOp rGeI (tOp (rAddA K) (tIxA K (tVar 0) (tVar 5)) (tVar 6)) (tC (.int 1000))))) (tRet (tTup (tCons (tC (.bl false)) (tCons (tVar 0) tNil)))) tNext) (tSeq (tSet (tVar 2) (tVar 4) (tOp rSubI (tIxA K (tVar 0) (tVar 4)) (tVar 6))) (tSeq (tSet (tVar 2) (tVar 5) (tOp (rAddA K) (tIxA K (tVar 0) (tVar 5)) (tVar 6))) (tRet (tTup (tCons (tC (.bl true)) (tCons (tCB (rTupOf K) (tCons (tVar 2) tNil)) tNil))))))))))))
theorem sim_done : SimS (Wv P w K CA) (t_done P w K CA) (bo_done) := (simS_seq (simS_asg (sim_blt (simA_cons sim_var simA_nil) sim_list)) (simS_seq (simS_if (simT_test (sim_bin (sim_ix sim_var sim_int) sim_str sim_eq)) (simS_ret (sim_tup (simA_cons (sim_blt (simA_cons (sim_comp (js := [7]) (vs := [7]) (simI_seq (sim_ix sim_var sim_int)) simG_name (by decide) simT_yes (sim_ix sim_var sim_var)) simA_nil) sim_tuple) (simA_cons sim_var simA_nil)))) simS_nil) (simS_seq (simS_if (simT_test (sim_bin (sim_ix sim_var sim_int) (sim_tup (simA_cons sim_str (simA_cons sim_str simA_nil))) sim_in)) (simS_seq (simS_for (simI_seq (sim_ix sim_var sim_int)) (tg_tup (is := [7, 8])) (simS_setV sim_var sim_var)) (simS_ret (sim_tup (simA_cons (sim_blt (simA_cons (sim_comp (js := [7, 8]) (vs := [7, 8]) (simI_seq (sim_ix sim_var sim_int)) simG_tup (by decide) simT_yes (sim_ix sim_var sim_var)) simA_nil) sim_tuple) (simA_cons (sim_blt (simA_cons sim_var simA_nil) sim_tuple) simA_nil))))) simS_nil) (simS_seq (simS_if (simT_test (sim_bin (sim_ix sim_var sim_int) sim_str sim_eq)) (simS_seq (simS_setV (sim_ix sim_var sim_int) (sim_bin (sim_bin (sim_ix sim_var (sim_ix sim_var sim_int)) (sim_ix sim_var sim_int) sim_add) sim_int sim_mod)) (simS_ret (sim_tup (simA_cons (sim_ix sim_var (sim_ix sim_var sim_int)) (simA_cons (sim_blt (simA_cons sim_var simA_nil) sim_tuple) simA_nil))))) simS_nil) (simS_seq (simS_unp sim_var) (simS_seq (simS_if (simT_or (simT_test (sim_bin (sim_ix sim_var sim_var) sim_var sim_lt)) (simT_test (sim_bin (sim_bin (sim_ix sim_var sim_var) sim_var sim_add) sim_int sim_ge))) (simS_ret (sim_tup (simA_cons sim_bl (simA_cons sim_var simA_nil)))) simS_nil) (simS_seq (simS_setV sim_var (sim_bin (sim_ix sim_var sim_var) sim_var sim_sub)) (simS_seq (simS_setV sim_var (sim_bin (sim_ix sim_var sim_var) sim_var sim_add)) (simS_ret (sim_tup (simA_cons sim_bl (simA_cons (sim_blt (simA_cons sim_var simA_nil) sim_tuple) simA_nil))))))))))))
theorem ok_done (T : Fx K mg) {f : Addr} {fd : FuncData} (F : FnP K "done" "done" st_done [] f fd)   : FnOk P w K mg base CX0 1 f fd ["worths", "deed"] (spOf (Wv P w K CA) 2 ev_done) := by
  have sc := sc_done
  refine fn_ok F sc fun cdv A outer s H E hr => ⟨t_done P w K CA, ?_, sim_done⟩
  exact (pss_cons (ps_set (i := 2) sc.nd rfl (by first | exact .inl rfl | exact .inr rfl) (pe_callTy call_list_of (by rfl) T.b_list bb_list (pa_cons (pv 0) pa_nil))) (pss_cons (ps_if (pt_cmpR (op_eqD hr.units) (pe_ixA (hu_of hr) (pv 1) pe_int (fun _ _ => rfl)) pe_str (nomark _)) (pss_one (ps_ret (pe_tup (pa_cons (pe_callTy call_tuple_of (by rfl) T.b_tuple bb_tuple (pa_cons (pe_lc (own := [("number", 7)]) rfl sc.nd (pi_seq (pe_ixA (hu_of hr) (pv 1) pe_int (fun _ _ => rfl))) (blkOk_by (by kernel_rfl)) (fun _ _ _ _ _ => (pg_name (i := 7) sc.nd rfl (by first | exact .inl rfl | exact .inr rfl))) (fun _ _ _ _ _ => pts_nil) (fun _ _ _ _ _ => (pe_ixA (hu_of hr) (pv 0) (pv 7) (fun _ _ => rfl)))) pa_nil)) (pa_cons (pv 0) pa_nil))))) pss_nil) (pss_cons (ps_if (pt_cmpR (op_inA (u65 hr)) (pe_ixA (hu_of hr) (pv 1) pe_int (fun _ _ => rfl)) (pe_tup (pa_cons pe_str (pa_cons pe_str pa_nil))) (by rfl)) (pss_cons (ps_for PassesOwn.never rfl (pi_seq (pe_ixA (hu_of hr) (pv 1) pe_int (fun _ _ => rfl))) (pg_tup (by rfl) (pgs_cons (pg_name (i := 7) sc.nd rfl (by first | exact .inl rfl | exact .inr rfl)) (pgs_cons (pg_name (i := 8) sc.nd rfl (by first | exact .inl rfl | exact .inr rfl)) pgs_nil))) (pss_one (ps_set3 (u16 hr) (pv 2) (pv 7) (pv 8)))) (pss_one (ps_ret (pe_tup (pa_cons (pe_callTy call_tuple_of (by rfl) T.b_tuple bb_tuple (pa_cons (pe_lc (own := [("number", 7), ("worth", 8)]) rfl sc.nd (pi_seq (pe_ixA (hu_of hr) (pv 1) pe_int (fun _ _ => rfl))) (blkOk_by (by kernel_rfl)) (fun _ _ _ _ _ => (pg_tup (by rfl) (pgs_cons (pg_name (i := 7) sc.nd rfl (by first | exact .inl rfl | exact .inr rfl)) (pgs_cons (pg_name (i := 8) sc.nd rfl (by first | exact .inl rfl | exact .inr rfl)) pgs_nil)))) (fun _ _ _ _ _ => pts_nil) (fun _ _ _ _ _ => (pe_ixA (hu_of hr) (pv 0) (pv 7) (fun _ _ => rfl)))) pa_nil)) (pa_cons (pe_callTy call_tuple_of (by rfl) T.b_tuple bb_tuple (pa_cons (pv 2) pa_nil)) pa_nil)))))) pss_nil) (pss_cons (ps_if (pt_cmpR (op_eqD hr.units) (pe_ixA (hu_of hr) (pv 1) pe_int (fun _ _ => rfl)) pe_str (nomark _)) (pss_cons (ps_set3 (u16 hr) (pv 2) (pe_ixA (hu_of hr) (pv 1) pe_int (fun _ _ => rfl)) (pe_op op_mod (pe_op op_addA (pe_ixA (hu_of hr) (pv 0) (pe_ixA (hu_of hr) (pv 1) pe_int (fun _ _ => rfl)) (fun _ _ => rfl)) (pe_ixA (hu_of hr) (pv 1) pe_int (fun _ _ => rfl))) (pe_gint T.c_WORTHS (by rfl)))) (pss_one (ps_ret (pe_tup (pa_cons (pe_ixA (hu_of hr) (pv 2) (pe_ixA (hu_of hr) (pv 1) pe_int (fun _ _ => rfl)) (fun _ _ => rfl)) (pa_cons (pe_callTy call_tuple_of (by rfl) T.b_tuple bb_tuple (pa_cons (pv 2) pa_nil)) pa_nil)))))) pss_nil) (pss_cons (ps_asg (pv 1) (pg_unp (is := [3, 4, 5, 6]) (by rfl) (pgs_cons (pg_name (i := 3) sc.nd rfl (by first | exact .inl rfl | exact .inr rfl)) (pgs_cons (pg_name (i := 4) sc.nd rfl (by first | exact .inl rfl | exact .inr rfl)) (pgs_cons (pg_name (i := 5) sc.nd rfl (by first | exact .inl rfl | exact .inr rfl)) (pgs_cons (pg_name (i := 6) sc.nd rfl (by first | exact .inl rfl | exact .inr rfl)) pgs_nil)))))) (pss_cons (ps_if (PW.pt (pw_or (pt_cmpR op_lt (pe_ixA (hu_of hr) (pv 0) (pv 4) (fun _ _ => rfl)) (pv 6) (nomark _)) (pw_or1 (pt_cmpR op_ge (pe_op op_addA (pe_ixA (hu_of hr) (pv 0) (pv 5) (fun _ _ => rfl)) (pv 6)) (pe_gint T.c_WORTHS (by rfl)) (nomark _))))) (pss_one (ps_ret (pe_tup (pa_cons pe_bl (pa_cons (pv 0) pa_nil))))) pss_nil) (pss_cons (ps_set3 (u16 hr) (pv 2) (pv 4) (pe_op op_sub (pe_ixA (hu_of hr) (pv 0) (pv 4) (fun _ _ => rfl)) (pv 6))) (pss_cons (ps_set3 (u16 hr) (pv 2) (pv 5) (pe_op op_addA (pe_ixA (hu_of hr) (pv 0) (pv 5) (fun _ _ => rfl)) (pv 6))) (pss_one (ps_ret (pe_tup (pa_cons pe_bl (pa_cons (pe_callTy call_tuple_of (by rfl) T.b_tuple bb_tuple (pa_cons (pv 2) pa_nil)) pa_nil)))))))))))))
abbrev st_like : Stmt := top 21
def bo_like : Sx := (sRet (eAnd (eBin gEq (eVar 0) (eVar 1)) (eBin gEq (eIsi .bool (eVar 0)) (eIsi .bool (eVar 1)))))
def ev_like : Ru := runOf 2 bo_like
theorem sc_like : FnScope ["one", "other"] ["one", "other"] (defScope st_like) := ⟨rfl, rfl, rfl, by decide +kernel, rfl, by decide +kernel, by decide +kernel⟩
def t_like (P : Program) (w : World) (K : PySem.W.Frag) (CA : Nat → Addr) : TS := (tRet (tAndV (tOp (rEqD K) (tVar 0) (tVar 1)) (tOp (rEqD K) (tCB (rIsi K) (tCons (tVar 0) (tCons (tC (.ty "bool")) tNil))) (tCB (rIsi K) (tCons (tVar 1) (tCons (tC (.ty "bool")) tNil))))))
theorem sim_like : SimS (Wv P w K CA) (t_like P w K CA) (bo_like) := (simS_ret (sim_and (sim_bin sim_var sim_var sim_eq) (sim_bin (sim_isi (t := .bool) sim_var) (sim_isi (t := .bool) sim_var) sim_eq)))
theorem ok_like (T : Fx K mg) {f : Addr} {fd : FuncData} (F : FnP K "like" "like" st_like [] f fd)   : FnOk P w K mg base CX0 1 f fd ["one", "other"] (spOf (Wv P w K CA) 2 ev_like) := by
  have sc := sc_like
  refine fn_ok F sc fun cdv A outer s H E hr => ⟨t_like P w K CA, ?_, sim_like⟩
  exact (pss_one (ps_ret (pe_and (pe_cmpR (op_eqD hr.units) (pv 0) (pv 1) (nomark _)) (pe_one (pe_cmpR (op_eqD hr.units) (pe_callB call_isi (by rfl) T.b_isinstance bb_isinstance (pa_cons (pv 0) (pa_cons (pe_bltn (by rfl) T.b_bool bb_bool rfl) pa_nil))) (pe_callB call_isi (by rfl) T.b_isinstance bb_isinstance (pa_cons (pv 1) (pa_cons (pe_bltn (by rfl) T.b_bool bb_bool rfl) pa_nil))) (nomark _))))))
abbrev st_order_of : Stmt := top 22
def bd_order_of_1 (run : Ru) : Sx := (sSeq (sUnp [5, 6] (eCall ev_done [] [(eVar 2), (eBin gIx (eBin gIx (eVar 0) (eVar 4)) (eLit (.int 1)))])) (sIf (eOr (eUn gIsN (eBin gIx (eBin gIx (eVar 0) (eVar 4)) (eLit (.int 3)))) (eCall ev_like [] [(eBin gIx (eBin gIx (eVar 0) (eVar 4)) (eLit (.int 4))), (eVar 5)])) (sSeq (sAsg 7 (eBlt gTuple [(eComp (fVar 1) (tgName 9) [9] (eBin gNe (eVar 9) (eVar 4)) (eVar 9))])) (sSeq (sAsg 8 (eCall run [] [(eVar 0), (eVar 7), (eVar 6), (eVar 3)])) (sIf (eUn gNotN (eVar 8)) (sRet (eBin gAdd (eLst [(eVar 4)]) (eVar 8))) sNil))) sNil))
def bo_order_of (run : Ru) : Sx := (sSeq (sIf (eBin gEq (eComp (fVar 1) (tgName 4) [4] (eUn gNotN (eBin gIx (eBin gIx (eVar 0) (eVar 4)) (eLit (.int 3)))) (eVar 4)) (eLst [])) (sRet (eLst [])) sNil) (sSeq (sIf (eBin gIn (eTup [(eVar 1), (eVar 2)]) (eVar 3)) (sRet (eLit (.non))) sNil) (sSeq (sFor (fSeq (eCall ev_may_be_next [] [(eVar 0), (eVar 1)])) (tgName 4) (bd_order_of_1 run)) (sSeq (sSet (eVar 3) (eTup [(eVar 1), (eVar 2)]) (eLit (.bl true))) (sRet (eLit (.non)))))))
def ev_order_of : Nat → Ru
  | 0 => fun _ _ => none
  | n + 1 => runOf 10 (bo_order_of (ev_order_of n))
theorem sc_order_of : FnScope ["rows", "left", "worths", "dead", "number", "answer", "behind", "rest", "order", "one"] ["rows", "left", "worths", "dead"] (defScope st_order_of) := ⟨rfl, rfl, rfl, by decide +kernel, rfl, by decide +kernel, by decide +kernel⟩
def t_order_of (P : Program) (w : World) (K : PySem.W.Frag) (CA : Nat → Addr) (run : Ru) : TS := (tSeq (tIfS (tTest (tOp (rEqD K) (tLc (iSeq K (tVar 1)) (gName 4) (tB (tNotN (tIxA K (tIxA K (tVar 0) (tVar 4)) (tC (.int 3))))) (tVar 4) [4]) (tLst tNil))) (tRet (tLst tNil)) tNext) (tSeq (tIfS (tTest (tOp (rInA K) (tTup (tCons (tVar 1) (tCons (tVar 2) tNil))) (tVar 3))) (tRet (tC (.non))) tNext) (tSeq (tFor (iSeq K (tCall (spOf (Wv P w K CA) 2 ev_may_be_next) [] L2.E0 (tCons (tVar 0) (tCons (tVar 1) tNil)))) (gName 4) (tSeq (tAsg (tCall (spOf (Wv P w K CA) 2 ev_done) [] L2.E0 (tCons (tVar 2) (tCons (tIxA K (tIxA K (tVar 0) (tVar 4)) (tC (.int 1))) tNil))) (gUnp K [5, 6])) (tIfS (tOr (tB (tIsN (tIxA K (tIxA K (tVar 0) (tVar 4)) (tC (.int 3))))) (tB (tCall (spOf (Wv P w K CA) 2 ev_like) [] L2.E0 (tCons (tIxA K (tIxA K (tVar 0) (tVar 4)) (tC (.int 4))) (tCons (tVar 5) tNil))))) (tSeq (tAsg (tCB (rTupOf K) (tCons (tLc (iSeq K (tVar 1)) (gName 9) (tTest (tOp (rNeD K) (tVar 9) (tVar 4))) (tVar 9) [9]) tNil)) (gName 7)) (tSeq (tAsg (tCall (spOf (Wv P w K CA) 4 run) [] L2.E0 (tCons (tVar 0) (tCons (tVar 7) (tCons (tVar 6) (tCons (tVar 3) tNil))))) (gName 8)) (tIfS (tB (tNotN (tVar 8))) (tRet (tOp (rAddA K) (tLst (tCons (tVar 4) tNil)) (tVar 8))) tNext))) tNext))) (tSeq (tSet (tVar 3) (tTup (tCons (tVar 1) (tCons (tVar 2) tNil))) (tC (.bl true))) (tRet (tC (.non)))))))
theorem sim_order_of (run : Ru) : SimS (Wv P w K CA) (t_order_of P w K CA run) (bo_order_of run) := (simS_seq (simS_if (simT_test (sim_bin (sim_comp (js := [4]) (vs := [4]) simI_var simG_name (by decide) (simT_of (sim_notN (sim_ix (sim_ix sim_var sim_var) sim_int))) sim_var) (sim_lst simA_nil) sim_eq)) (simS_ret (sim_lst simA_nil)) simS_nil) (simS_seq (simS_if (simT_test (sim_bin (sim_tup (simA_cons sim_var (simA_cons sim_var simA_nil))) sim_var sim_in)) (simS_ret sim_non) simS_nil) (simS_seq (simS_for (simI_seq (sim_call (dfl := []) (simA_cons sim_var (simA_cons sim_var simA_nil)) rfl rfl)) tg_name (simS_seq (simS_unp (sim_call (dfl := []) (simA_cons sim_var (simA_cons (sim_ix (sim_ix sim_var sim_var) sim_int) simA_nil)) rfl rfl)) (simS_if (simT_or (simT_of (sim_isN (sim_ix (sim_ix sim_var sim_var) sim_int))) (simT_of (sim_call (dfl := []) (simA_cons (sim_ix (sim_ix sim_var sim_var) sim_int) (simA_cons sim_var simA_nil)) rfl rfl))) (simS_seq (simS_asg (sim_blt (simA_cons (sim_comp (js := [9]) (vs := [9]) simI_var simG_name (by decide) (simT_test (sim_bin sim_var sim_var sim_ne)) sim_var) simA_nil) sim_tuple)) (simS_seq (simS_asg (sim_call (dfl := []) (simA_cons sim_var (simA_cons sim_var (simA_cons sim_var (simA_cons sim_var simA_nil)))) rfl rfl)) (simS_if (simT_of (sim_notN sim_var)) (simS_ret (sim_bin (sim_lst (simA_cons sim_var simA_nil)) sim_var sim_add)) simS_nil))) simS_nil))) (simS_seq (simS_set sim_var (sim_tup (simA_cons sim_var (simA_cons sim_var simA_nil))) sim_bl) (simS_ret sim_non)))))
theorem ok_order_of (T : Fx K mg) {f : Addr} {fd : FuncData} (F : FnP K "order_of" "order_of" st_order_of [] f fd) (G_may_be_next : Kn P w K mg base 1 "may_be_next" ["rows", "left"] [] (spOf (Wv P w K CA) 2 ev_may_be_next)) (G_done : Kn P w K mg base 1 "done" ["worths", "deed"] [] (spOf (Wv P w K CA) 2 ev_done)) (G_like : Kn P w K mg base 1 "like" ["one", "other"] [] (spOf (Wv P w K CA) 2 ev_like)) (run : Ru) {n : Nat} (G_order_of : Kn P w K mg base (2 + n) "order_of" ["rows", "left", "worths", "dead"] [] (spOf (Wv P w K CA) 4 run)) : FnOk P w K mg base CX0 (2 + n + 1) f fd ["rows", "left", "worths", "dead"] (spOf (Wv P w K CA) 4 (runOf 10 (bo_order_of run))) := by
  have sc := sc_order_of
  refine fn_ok F sc fun cdv A outer s H E hr => ⟨t_order_of P w K CA run, ?_, sim_order_of run⟩
  exact (pss_cons (ps_if (pt_cmpR (op_eqD hr.units) (pe_lc (own := [("number", 4)]) rfl sc.nd (pi_seq (pv 1)) (blkOk_by (by kernel_rfl)) (fun _ _ _ _ _ => (pg_name (i := 4) sc.nd rfl (by first | exact .inl rfl | exact .inr rfl))) (fun _ _ _ _ _ => (pts_one (pt_cmp (pc_notN (pe_ixA (hu_of hr) (pe_ixA (hu_of hr) (pv 0) (pv 4) (fun _ _ => rfl)) pe_int (fun _ _ => rfl))) rfl))) (fun _ _ _ _ _ => (pv 4))) (pe_lst pa_nil) (nomark _)) (pss_one (ps_ret (pe_lst pa_nil))) pss_nil) (pss_cons (ps_if (pt_cmpR (op_inA (u65 hr)) (pe_tup (pa_cons (pv 1) (pa_cons (pv 2) pa_nil))) (pv 3) (by rfl)) (pss_one (ps_ret pe_non)) pss_nil) (pss_cons (ps_for PassesOwn.never rfl (pi_seq (pe_kn G_may_be_next (hr.mono (by omega)) (by rfl) (pa_cons (pv 0) (pa_cons (pv 1) pa_nil)))) (pg_name (i := 4) sc.nd rfl (by first | exact .inl rfl | exact .inr rfl)) (pss_cons (ps_asg (pe_kn G_done (hr.mono (by omega)) (by rfl) (pa_cons (pv 2) (pa_cons (pe_ixA (hu_of hr) (pe_ixA (hu_of hr) (pv 0) (pv 4) (fun _ _ => rfl)) pe_int (fun _ _ => rfl)) pa_nil))) (pg_unp (is := [5, 6]) (by rfl) (pgs_cons (pg_name (i := 5) sc.nd rfl (by first | exact .inl rfl | exact .inr rfl)) (pgs_cons (pg_name (i := 6) sc.nd rfl (by first | exact .inl rfl | exact .inr rfl)) pgs_nil)))) (pss_one (ps_if (PW.pt (pw_or (pt_cmp (pc_isN (pe_ixA (hu_of hr) (pe_ixA (hu_of hr) (pv 0) (pv 4) (fun _ _ => rfl)) pe_int (fun _ _ => rfl))) rfl) (pw_or1 (pt_val (pe_kn G_like (hr.mono (by omega)) (by rfl) (pa_cons (pe_ixA (hu_of hr) (pe_ixA (hu_of hr) (pv 0) (pv 4) (fun _ _ => rfl)) pe_int (fun _ _ => rfl)) (pa_cons (pv 5) pa_nil))))))) (pss_cons (ps_set (i := 7) sc.nd rfl (by first | exact .inl rfl | exact .inr rfl) (pe_callTy call_tuple_of (by rfl) T.b_tuple bb_tuple (pa_cons (pe_lc (own := [("one", 9)]) rfl sc.nd (pi_seq (pv 1)) (blkOk_by (by kernel_rfl)) (fun _ _ _ _ _ => (pg_name (i := 9) sc.nd rfl (by first | exact .inl rfl | exact .inr rfl))) (fun _ _ _ _ _ => (pts_one (pt_cmpR (op_neD hr.units) (pv 9) (pv 4) (nomark _)))) (fun _ _ _ _ _ => (pv 9))) pa_nil))) (pss_cons (ps_set (i := 8) sc.nd rfl (by first | exact .inl rfl | exact .inr rfl) (pe_kn G_order_of (hr.mono (by omega)) (by rfl) (pa_cons (pv 0) (pa_cons (pv 7) (pa_cons (pv 6) (pa_cons (pv 3) pa_nil)))))) (pss_one (ps_if (pt_cmp (pc_notN (pv 8)) rfl) (pss_one (ps_ret (pe_op op_addA (pe_lst (pa_cons (pv 4) pa_nil)) (pv 8)))) pss_nil)))) pss_nil)))) (pss_cons (ps_set3 (u16 hr) (pv 3) (pe_tup (pa_cons (pv 1) (pa_cons (pv 2) pa_nil))) pe_bl) (pss_one (ps_ret pe_non))))))
abbrev st_judged : Stmt := top 23
def bo_judged : Sx := (sSeq (sExpr (eCall ev_need_history [] [(eVar 0)])) (sRet (eCall (ev_order_of 40) [] [(eVar 0), (eTupRg (eBlt gLen [(eVar 0)])), (eBin gMul (eTup [(eLit (.int 0))]) (eLit (.int 10))), (eBox (eDNew .N))])))
def ev_judged : Ru := runOf 1 bo_judged
theorem sc_judged : FnScope ["rows"] ["rows"] (defScope st_judged) := ⟨rfl, rfl, rfl, by decide +kernel, rfl, by decide +kernel, by decide +kernel⟩
def t_judged (P : Program) (w : World) (K : PySem.W.Frag) (CA : Nat → Addr) : TS := (tSeq (tDrop (tCall (spOf (Wv P w K CA) 1 ev_need_history) [] L2.E0 (tCons (tVar 0) tNil))) (tRet (tCall (spOf (Wv P w K CA) 4 (ev_order_of 40)) [] L2.E0 (tCons (tVar 0) (tCons (tTupRg (tRg1 (tCB (rLenA K) (tCons (tVar 0) tNil)))) (tCons (tOp (rMulA K) (tTup (tCons (tC (.int 0)) tNil)) (tC (.int 10))) (tCons tDNewN tNil)))))))
theorem sim_judged : SimS (Wv P w K CA) (t_judged P w K CA) (bo_judged) := (simS_seq (simS_expr (sim_call (dfl := []) (simA_cons sim_var simA_nil) rfl rfl)) (simS_ret (sim_call (dfl := []) (simA_cons sim_var (simA_cons (sim_tupRg (sim_blt (simA_cons sim_var simA_nil) sim_len)) (simA_cons (sim_bin (sim_tup (simA_cons sim_int simA_nil)) sim_int sim_mul) (simA_cons (sim_box sim_dnewN) simA_nil)))) rfl rfl)))
theorem ok_judged (T : Fx K mg) {f : Addr} {fd : FuncData} (F : FnP K "judged" "judged" st_judged [] f fd) (G_need_history : Kn P w K mg base 7 "need_history" ["rows"] [] (spOf (Wv P w K CA) 1 ev_need_history)) (G_order_of : Kn P w K mg base 42 "order_of" ["rows", "left", "worths", "dead"] [] (spOf (Wv P w K CA) 4 (ev_order_of 40)))  : FnOk P w K mg base CX0 43 f fd ["rows"] (spOf (Wv P w K CA) 1 ev_judged) := by
  have sc := sc_judged
  refine fn_ok F sc fun cdv A outer s H E hr => ⟨t_judged P w K CA, ?_, sim_judged⟩
  exact (pss_cons (ps_expr (pe_kn G_need_history (hr.mono (by omega)) (by rfl) (pa_cons (pv 0) pa_nil))) (pss_one (ps_ret (pe_kn G_order_of (hr.mono (by omega)) (by rfl) (pa_cons (pv 0) (pa_cons (pe_tupRg rfl (by rfl) T.b_tuple (prg_1 (by rfl) T.b_range (pe_callB call_lenA (by rfl) T.b_len bb_len (pa_cons (pv 0) pa_nil)))) (pa_cons (pe_op op_mulA (pe_tup (pa_cons pe_int pa_nil)) (pe_gint T.c_FILES (by rfl))) (pa_cons pe_dnewN pa_nil))))))))
abbrev st__law_order : Stmt := top 38
def bd__law_order_1 : Sx := (sSeq (sIf (eAnd (eUn gNotN (eBin gIx (eBin gIx (eVar 0) (eVar 4)) (eLit (.int 3)))) (eBin gLt (eBin gIx (eBin gIx (eVar 0) (eVar 4)) (eLit (.int 3))) (eVar 3))) (sRet (eLit (.bl false))) sNil) (sSeq (sAsg 3 (eBlt gMax2 [(eVar 3), (eBin gIx (eBin gIx (eVar 0) (eVar 4)) (eLit (.int 2)))])) (sSeq (sUnp [5, 2] (eCall ev__law_done [] [(eVar 2), (eBin gIx (eBin gIx (eVar 0) (eVar 4)) (eLit (.int 1)))])) (sIf (eAnd (eUn gNotN (eBin gIx (eBin gIx (eVar 0) (eVar 4)) (eLit (.int 3)))) (eUn gNot (eCall (ev__law_alike 40) [] [(eBin gIx (eBin gIx (eVar 0) (eVar 4)) (eLit (.int 4))), (eVar 5)]))) (sRet (eLit (.bl false))) sNil))))
def bo__law_order : Sx := (sSeq (sIf (eOr (eUn gNot (eIsi .list (eVar 1))) (eBin gNe (eLenSet (eVar 1)) (eBlt gLen [(eVar 1)]))) (sRet (eLit (.bl false))) sNil) (sSeq (sIf (eBin gNe (eComp (fVar 1) (tgName 4) [4] (eOr (eNotRg (eVar 4) (eBlt gLen [(eVar 0)])) (eUn gNot (eCall (ev__law_alike 40) [] [(eVar 4), (eBlt gInt [(eVar 4)])]))) (eVar 4)) (eLst [])) (sRet (eLit (.bl false))) sNil) (sSeq (sIf (eBin gNe (eComp (fRange (eBlt gLen [(eVar 0)])) (tgName 4) [4] (eAnd (eUn gNotN (eBin gIx (eBin gIx (eVar 0) (eVar 4)) (eLit (.int 3)))) (eBin gNotIn (eVar 4) (eVar 1))) (eVar 4)) (eLst [])) (sRet (eLit (.bl false))) sNil) (sSeq (sAsg 2 (eBin gMul (eTup [(eLit (.int 0))]) (eLit (.int 10)))) (sSeq (sAsg 3 (eLit (.int 0))) (sSeq (sFor (fVar 1) (tgName 4) bd__law_order_1) (sRet (eLit (.bl true)))))))))
def ev__law_order : Ru := runOf 6 bo__law_order
theorem sc__law_order : FnScope ["_law_rows", "_law_order_here", "_law_worths", "_law_last", "_law_one", "_law_answer"] ["_law_rows", "_law_order_here"] (defScope st__law_order) := ⟨rfl, rfl, rfl, by decide +kernel, rfl, by decide +kernel, by decide +kernel⟩
def t__law_order (P : Program) (w : World) (K : PySem.W.Frag) (CA : Nat → Addr) : TS := (tSeq (tIfS (tOr (tNot (tB (tCB (rIsi K) (tCons (tVar 1) (tCons (tC (.ty "list")) tNil))))) (tTest (tOp (rNeD K) (RZ.tLenSetI K (tVar 1)) (tCB (rLenA K) (tCons (tVar 1) tNil))))) (tRet (tC (.bl false))) tNext) (tSeq (tIfS (tTest (tOp (rNeD K) (tLc (iSeq K (tVar 1)) (gName 4) (tOr (tTest (tOp rNotRg (tVar 4) (tRgV (tCB (rLenA K) (tCons (tVar 0) tNil))))) (tNot (tB (tCall (spOf (Wv P w K CA) 2 (ev__law_alike 40)) [] L2.E0 (tCons (tVar 4) (tCons (tCB rIntA (tCons (tVar 4) tNil)) tNil)))))) (tVar 4) [4]) (tLst tNil))) (tRet (tC (.bl false))) tNext) (tSeq (tIfS (tTest (tOp (rNeD K) (tLc (iRng1 (tCons (tCB (rLenA K) (tCons (tVar 0) tNil)) tNil)) (gName 4) (tAnd (tB (tNotN (tIxA K (tIxA K (tVar 0) (tVar 4)) (tC (.int 3))))) (tTest (tOp (rNotInA K) (tVar 4) (tVar 1)))) (tVar 4) [4]) (tLst tNil))) (tRet (tC (.bl false))) tNext) (tSeq (tAsg (tOp (rMulA K) (tTup (tCons (tC (.int 0)) tNil)) (tC (.int 10))) (gName 2)) (tSeq (tAsg (tC (.int 0)) (gName 3)) (tSeq (tFor (iSeq K (tVar 1)) (gName 4) (tSeq (tIfS (tAnd (tB (tNotN (tIxA K (tIxA K (tVar 0) (tVar 4)) (tC (.int 3))))) (tTest (tOp rLtI (tIxA K (tIxA K (tVar 0) (tVar 4)) (tC (.int 3))) (tVar 3)))) (tRet (tC (.bl false))) tNext) (tSeq (tAsg (tCB rMax2I (tCons (tVar 3) (tCons (tIxA K (tIxA K (tVar 0) (tVar 4)) (tC (.int 2))) tNil))) (gName 3)) (tSeq (tAsg (tCall (spOf (Wv P w K CA) 2 ev__law_done) [] L2.E0 (tCons (tVar 2) (tCons (tIxA K (tIxA K (tVar 0) (tVar 4)) (tC (.int 1))) tNil))) (gUnp K [5, 2])) (tIfS (tAnd (tB (tNotN (tIxA K (tIxA K (tVar 0) (tVar 4)) (tC (.int 3))))) (tNot (tB (tCall (spOf (Wv P w K CA) 2 (ev__law_alike 40)) [] L2.E0 (tCons (tIxA K (tIxA K (tVar 0) (tVar 4)) (tC (.int 4))) (tCons (tVar 5) tNil)))))) (tRet (tC (.bl false))) tNext))))) (tRet (tC (.bl true)))))))))
theorem sim__law_order : SimS (Wv P w K CA) (t__law_order P w K CA) (bo__law_order) := (simS_seq (simS_if (simT_or (simT_not (simT_of (sim_isi (t := .list) sim_var))) (simT_test (sim_bin (sim_lenSet sim_var) (sim_blt (simA_cons sim_var simA_nil) sim_len) sim_ne))) (simS_ret sim_bl) simS_nil) (simS_seq (simS_if (simT_test (sim_bin (sim_comp (js := [4]) (vs := [4]) simI_var simG_name (by decide) (simT_or (simT_test (sim_notRg sim_var (sim_blt (simA_cons sim_var simA_nil) sim_len))) (simT_not (simT_of (sim_call (dfl := []) (simA_cons sim_var (simA_cons (sim_blt (simA_cons sim_var simA_nil) sim_intc) simA_nil)) rfl rfl)))) sim_var) (sim_lst simA_nil) sim_ne)) (simS_ret sim_bl) simS_nil) (simS_seq (simS_if (simT_test (sim_bin (sim_comp (js := [4]) (vs := [4]) (simI_range (sim_blt (simA_cons sim_var simA_nil) sim_len)) simG_name (by decide) (simT_and (simT_of (sim_notN (sim_ix (sim_ix sim_var sim_var) sim_int))) (simT_test (sim_bin sim_var sim_var sim_notIn))) sim_var) (sim_lst simA_nil) sim_ne)) (simS_ret sim_bl) simS_nil) (simS_seq (simS_asg (sim_bin (sim_tup (simA_cons sim_int simA_nil)) sim_int sim_mul)) (simS_seq (simS_asg sim_int) (simS_seq (simS_for simI_var tg_name (simS_seq (simS_if (simT_and (simT_of (sim_notN (sim_ix (sim_ix sim_var sim_var) sim_int))) (simT_test (sim_bin (sim_ix (sim_ix sim_var sim_var) sim_int) sim_var sim_lt))) (simS_ret sim_bl) simS_nil) (simS_seq (simS_asg (sim_blt (simA_cons sim_var (simA_cons (sim_ix (sim_ix sim_var sim_var) sim_int) simA_nil)) sim_max2)) (simS_seq (simS_unp (sim_call (dfl := []) (simA_cons sim_var (simA_cons (sim_ix (sim_ix sim_var sim_var) sim_int) simA_nil)) rfl rfl)) (simS_if (simT_and (simT_of (sim_notN (sim_ix (sim_ix sim_var sim_var) sim_int))) (simT_not (simT_of (sim_call (dfl := []) (simA_cons (sim_ix (sim_ix sim_var sim_var) sim_int) (simA_cons sim_var simA_nil)) rfl rfl)))) (simS_ret sim_bl) simS_nil))))) (simS_ret sim_bl)))))))
theorem ok__law_order (T : Fx K mg) {f : Addr} {fd : FuncData} (F : FnP K "_law_order" "_law_order" st__law_order [] f fd) (G__law_alike : Kn P w K mg base 41 "_law_alike" ["_law_found", "_law_due"] [] (spOf (Wv P w K CA) 2 (ev__law_alike 40))) (G__law_done : Kn P w K mg base 1 "_law_done" ["_law_worths", "_law_deed_here"] [] (spOf (Wv P w K CA) 2 ev__law_done))  : FnOk P w K mg base CX0 42 f fd ["_law_rows", "_law_order_here"] (spOf (Wv P w K CA) 2 ev__law_order) := by
  have sc := sc__law_order
  refine fn_ok F sc fun cdv A outer s H E hr => ⟨t__law_order P w K CA, ?_, sim__law_order⟩
  exact (pss_cons (ps_if (PW.pt (pw_or (pt_not (pt_val (pe_callB call_isi (by rfl) T.b_isinstance bb_isinstance (pa_cons (pv 1) (pa_cons (pe_bltn (by rfl) T.b_list bb_list rfl) pa_nil))))) (pw_or1 (pt_cmpR (op_neD hr.units) (RZ.pe_lenSetI (by rfl) T.b_len (by rfl) T.b_set (pv 1)) (pe_callB call_lenA (by rfl) T.b_len bb_len (pa_cons (pv 1) pa_nil)) (nomark _))))) (pss_one (ps_ret pe_bl)) pss_nil) (pss_cons (ps_if (pt_cmpR (op_neD hr.units) (pe_lc (own := [("_law_one", 4)]) rfl sc.nd (pi_seq (pv 1)) (blkOk_by (by kernel_rfl)) (fun _ _ _ _ _ => (pg_name (i := 4) sc.nd rfl (by first | exact .inl rfl | exact .inr rfl))) (fun _ _ _ _ _ => (pts_one (PW.pt (pw_or (pt_cmpR op_notIn_rng (pv 4) (pe_callTy cr_range1v (by rfl) T.b_range bb_range (pa_cons (pe_callB call_lenA (by rfl) T.b_len bb_len (pa_cons (pv 0) pa_nil)) pa_nil)) (by rfl)) (pw_or1 (pt_not (pt_val (pe_kn G__law_alike (hr.mono (by omega)) (by rfl) (pa_cons (pv 4) (pa_cons (pe_callTy call_int1 (by rfl) T.b_int bb_int (pa_cons (pv 4) pa_nil)) pa_nil)))))))))) (fun _ _ _ _ _ => (pv 4))) (pe_lst pa_nil) (nomark _)) (pss_one (ps_ret pe_bl)) pss_nil) (pss_cons (ps_if (pt_cmpR (op_neD hr.units) (pe_lc (own := [("_law_one", 4)]) rfl sc.nd (pi_range1 (by rfl) T.b_range (pa_cons (pe_callB call_lenA (by rfl) T.b_len bb_len (pa_cons (pv 0) pa_nil)) pa_nil)) (blkOk_by (by kernel_rfl)) (fun _ _ _ _ _ => (pg_name (i := 4) sc.nd rfl (by first | exact .inl rfl | exact .inr rfl))) (fun _ _ _ _ _ => (pts_one (PW.pt (pw_and (pt_cmp (pc_notN (pe_ixA (hu_of hr) (pe_ixA (hu_of hr) (pv 0) (pv 4) (fun _ _ => rfl)) pe_int (fun _ _ => rfl))) rfl) (pw_and1 (pt_cmpR (op_notInA (u65 hr)) (pv 4) (pv 1) (by rfl))))))) (fun _ _ _ _ _ => (pv 4))) (pe_lst pa_nil) (nomark _)) (pss_one (ps_ret pe_bl)) pss_nil) (pss_cons (ps_set (i := 2) sc.nd rfl (by first | exact .inl rfl | exact .inr rfl) (pe_op op_mulA (pe_tup (pa_cons pe_int pa_nil)) pe_int)) (pss_cons (ps_set (i := 3) sc.nd rfl (by first | exact .inl rfl | exact .inr rfl) pe_int) (pss_cons (ps_for PassesOwn.never rfl (pi_seq (pv 1)) (pg_name (i := 4) sc.nd rfl (by first | exact .inl rfl | exact .inr rfl)) (pss_cons (ps_if (PW.pt (pw_and (pt_cmp (pc_notN (pe_ixA (hu_of hr) (pe_ixA (hu_of hr) (pv 0) (pv 4) (fun _ _ => rfl)) pe_int (fun _ _ => rfl))) rfl) (pw_and1 (pt_cmpR op_lt (pe_ixA (hu_of hr) (pe_ixA (hu_of hr) (pv 0) (pv 4) (fun _ _ => rfl)) pe_int (fun _ _ => rfl)) (pv 3) (nomark _))))) (pss_one (ps_ret pe_bl)) pss_nil) (pss_cons (ps_set (i := 3) sc.nd rfl (by first | exact .inl rfl | exact .inr rfl) (pe_callB (call_max2 rfl) (by rfl) T.b_max bb_max (pa_cons (pv 3) (pa_cons (pe_ixA (hu_of hr) (pe_ixA (hu_of hr) (pv 0) (pv 4) (fun _ _ => rfl)) pe_int (fun _ _ => rfl)) pa_nil)))) (pss_cons (ps_asg (pe_kn G__law_done (hr.mono (by omega)) (by rfl) (pa_cons (pv 2) (pa_cons (pe_ixA (hu_of hr) (pe_ixA (hu_of hr) (pv 0) (pv 4) (fun _ _ => rfl)) pe_int (fun _ _ => rfl)) pa_nil))) (pg_unp (is := [5, 2]) (by rfl) (pgs_cons (pg_name (i := 5) sc.nd rfl (by first | exact .inl rfl | exact .inr rfl)) (pgs_cons (pg_name (i := 2) sc.nd rfl (by first | exact .inl rfl | exact .inr rfl)) pgs_nil)))) (pss_one (ps_if (PW.pt (pw_and (pt_cmp (pc_notN (pe_ixA (hu_of hr) (pe_ixA (hu_of hr) (pv 0) (pv 4) (fun _ _ => rfl)) pe_int (fun _ _ => rfl))) rfl) (pw_and1 (pt_not (pt_val (pe_kn G__law_alike (hr.mono (by omega)) (by rfl) (pa_cons (pe_ixA (hu_of hr) (pe_ixA (hu_of hr) (pv 0) (pv 4) (fun _ _ => rfl)) pe_int (fun _ _ => rfl)) (pa_cons (pv 5) pa_nil)))))))) (pss_one (ps_ret pe_bl)) pss_nil)))))) (pss_one (ps_ret pe_bl))))))))
abbrev st_law : Stmt := top 39
def bd_law_1 : Sx := (sSeq (sAsg 10 (eCall ev_judged [] [(eVar 8)])) (sSeq (sIf (eOr (eBin gEq (eUn gIsN (eVar 10)) (eVar 7)) (eBin gNe (eVar 8) (eVar 4))) (sRet (eLit (.bl false))) sNil) (sIf (eUn gNotN (eVar 10)) (sSeq (sIf (eUn gNot (eCall ev__law_order [] [(eVar 4), (eVar 10)])) (sRet (eLit (.bl false))) sNil) (sAppV 10 (eLit (.int 0)))) sNil)))
def bd_law_2 : Sx := (sSeq (sAsg 4 (eCall ev__law_history [] [(eVar 1), (ePick [(eLit (.int 7)), (eLit (.int 7)), (eLit (.int 12))] (eCall ev__law_off [] [(eVar 1), (eLit (.int 3))]))])) (sSeq (sAsg 6 (ePick [(eLit (.int 0)), (eLit (.int 0)), (eLit (.int 100)), (eLit (.int 9900))] (eCall ev__law_off [] [(eVar 1), (eLit (.int 4))]))) (sSeq (sAsg 4 (eComp (fVar 4) (tgName 11) [11] eTrue (eBin gAdd (eSlice (eVar 11) none (some (eLit (.int 2)))) (eTup [(eBin gAdd (eBin gIx (eVar 11) (eLit (.int 2))) (eVar 6)), (eIf (eUn gIsN (eBin gIx (eVar 11) (eLit (.int 3)))) (eLit (.non)) (eBin gAdd (eBin gIx (eVar 11) (eLit (.int 3))) (eVar 6))), (eBin gIx (eVar 11) (eLit (.int 4)))])))) (sSeq (sAsg 7 (eCall ev__law_explained [] [(eVar 4)])) (sSeq (sAsg 8 (eBlt gList [(eVar 4)])) (sFor (fRange (eLit (.int 2))) (tgName 9) bd_law_1))))))
def bo_law : Sx := (sSeq (sAsg 1 (eBox (eCall ev__law_dice [] [(eVar 0), (eLit (.int 0))]))) (sSeq (sFor (fRange (eLit (.int 4))) (tgName 2) bd_law_2) (sSeq (sAsg 3 (eBin gAdd (eLit (.int 1)) (eCall ev__law_off [] [(eVar 1), (eLit (.int 998))]))) (sSeq (sAsg 4 (eLst [(eTup [(eLit (.int 0)), (eTup [(eLit (.str "put")), (eTup [(eTup [(eLit (.int 0)), (eVar 3)])])]), (eLit (.int 0)), (eLit (.int 1)), (eTup [(eLit (.int 0))])]), (eTup [(eLit (.int 1)), (eTup [(eLit (.str "move")), (eLit (.int 0)), (eLit (.int 9)), (eVar 3)]), (eLit (.int 2)), (eLit (.int 3)), (eLit (.bl true))])])) (sSeq (sAsg 5 (eBin gAdd (eSlice (eVar 4) none (some (eLit (.int 1)))) (eLst [(eTup [(eLit (.int 1)), (eTup [(eLit (.str "move")), (eLit (.int 0)), (eLit (.int 9)), (eBin gAdd (eVar 3) (eLit (.int 1)))]), (eLit (.int 2)), (eLit (.int 3)), (eLit (.bl true))])]))) (sRet (eAnd (eCall (ev__law_alike 40) [] [(eCall ev_judged [] [(eVar 4)]), (eLst [(eLit (.int 0)), (eLit (.int 1))])]) (eUn gIsN (eCall ev_judged [] [(eVar 5)])))))))))
def ev_law : Ru := runOf 12 bo_law
theorem sc_law : FnScope ["_law_script", "_law_d", "_law_turn", "_law_worth", "_law_rows", "_law_more", "_law_later", "_law_due", "_law_handed", "_law_again", "_law_order_here", "_law_row"] ["_law_script"] (defScope st_law) := ⟨rfl, rfl, rfl, by decide +kernel, rfl, by decide +kernel, by decide +kernel⟩
def t_law (P : Program) (w : World) (K : PySem.W.Frag) (CA : Nat → Addr) : TS := (tSeq (tAsg (tCall (spOf (Wv P w K CA) 2 ev__law_dice) [] L2.E0 (tCons (tVar 0) (tCons (tC (.int 0)) tNil))) (gName 1)) (tSeq (tFor (iRng1 (tCons (tC (.int 4)) tNil)) (gName 2) (tSeq (tAsg (tCall (spOf (Wv P w K CA) 2 ev__law_history) [] L2.E0 (tCons (tVar 1) (tCons (tIxA K (tLst (tCons (tC (.int 7)) (tCons (tC (.int 7)) (tCons (tC (.int 12)) tNil)))) (tCall (spOf (Wv P w K CA) 2 ev__law_off) [] L2.E0 (tCons (tVar 1) (tCons (tC (.int 3)) tNil)))) tNil))) (gName 4)) (tSeq (tAsg (tIxA K (tLst (tCons (tC (.int 0)) (tCons (tC (.int 0)) (tCons (tC (.int 100)) (tCons (tC (.int 9900)) tNil))))) (tCall (spOf (Wv P w K CA) 2 ev__law_off) [] L2.E0 (tCons (tVar 1) (tCons (tC (.int 4)) tNil)))) (gName 6)) (tSeq (tAsg (tLc (iSeq K (tVar 4)) (gName 11) tYes (tOp (rAddA K) (tSl (rSlB K) (tVar 11) tNoPart (tPart (tC (.int 2)))) (tTup (tCons (tOp (rAddA K) (tIxA K (tVar 11) (tC (.int 2))) (tVar 6)) (tCons (tIf (tB (tIsN (tIxA K (tVar 11) (tC (.int 3))))) (tC (.non)) (tOp (rAddA K) (tIxA K (tVar 11) (tC (.int 3))) (tVar 6))) (tCons (tIxA K (tVar 11) (tC (.int 4))) tNil))))) [11]) (gName 4)) (tSeq (tAsg (tCall (spOf (Wv P w K CA) 1 ev__law_explained) [] L2.E0 (tCons (tVar 4) tNil)) (gName 7)) (tSeq (tAsg (tCB (rListOf K) (tCons (tVar 4) tNil)) (gName 8)) (tFor (iRng1 (tCons (tC (.int 2)) tNil)) (gName 9) (tSeq (tAsg (tCall (spOf (Wv P w K CA) 1 ev_judged) [] L2.E0 (tCons (tVar 8) tNil)) (gName 10)) (tSeq (tIfS (tOr (tTest (tOp (rEqD K) (tIsN (tVar 10)) (tVar 7))) (tTest (tOp (rNeD K) (tVar 8) (tVar 4)))) (tRet (tC (.bl false))) tNext) (tIfS (tB (tNotN (tVar 10))) (tSeq (tIfS (tNot (tB (tCall (spOf (Wv P w K CA) 2 ev__law_order) [] L2.E0 (tCons (tVar 4) (tCons (tVar 10) tNil))))) (tRet (tC (.bl false))) tNext) (tDrop (tApp K (tVar 10) (tC (.int 0))))) tNext)))))))))) (tSeq (tAsg (tOp (rAddA K) (tC (.int 1)) (tCall (spOf (Wv P w K CA) 2 ev__law_off) [] L2.E0 (tCons (tVar 1) (tCons (tC (.int 998)) tNil)))) (gName 3)) (tSeq (tAsg (tLst (tCons (tTup (tCons (tC (.int 0)) (tCons (tTup (tCons (tC (.str "put")) (tCons (tTup (tCons (tTup (tCons (tC (.int 0)) (tCons (tVar 3) tNil))) tNil)) tNil))) (tCons (tC (.int 0)) (tCons (tC (.int 1)) (tCons (tTup (tCons (tC (.int 0)) tNil)) tNil)))))) (tCons (tTup (tCons (tC (.int 1)) (tCons (tTup (tCons (tC (.str "move")) (tCons (tC (.int 0)) (tCons (tC (.int 9)) (tCons (tVar 3) tNil))))) (tCons (tC (.int 2)) (tCons (tC (.int 3)) (tCons (tC (.bl true)) tNil)))))) tNil))) (gName 4)) (tSeq (tAsg (tOp (rAddA K) (tSl (rSlB K) (tVar 4) tNoPart (tPart (tC (.int 1)))) (tLst (tCons (tTup (tCons (tC (.int 1)) (tCons (tTup (tCons (tC (.str "move")) (tCons (tC (.int 0)) (tCons (tC (.int 9)) (tCons (tOp (rAddA K) (tVar 3) (tC (.int 1))) tNil))))) (tCons (tC (.int 2)) (tCons (tC (.int 3)) (tCons (tC (.bl true)) tNil)))))) tNil))) (gName 5)) (tRet (tAndV (tCall (spOf (Wv P w K CA) 2 (ev__law_alike 40)) [] L2.E0 (tCons (tCall (spOf (Wv P w K CA) 1 ev_judged) [] L2.E0 (tCons (tVar 4) tNil)) (tCons (tLst (tCons (tC (.int 0)) (tCons (tC (.int 1)) tNil))) tNil))) (tIsN (tCall (spOf (Wv P w K CA) 1 ev_judged) [] L2.E0 (tCons (tVar 5) tNil))))))))))
theorem sim_law : SimS (Wv P w K CA) (t_law P w K CA) (bo_law) := (simS_seq (simS_asg (sim_box (sim_call (dfl := []) (simA_cons sim_var (simA_cons sim_int simA_nil)) rfl rfl))) (simS_seq (simS_for (simI_range sim_int) tg_name (simS_seq (simS_asg (sim_call (dfl := []) (simA_cons sim_var (simA_cons (sim_pick (simA_cons sim_int (simA_cons sim_int (simA_cons sim_int simA_nil))) (sim_call (dfl := []) (simA_cons sim_var (simA_cons sim_int simA_nil)) rfl rfl)) simA_nil)) rfl rfl)) (simS_seq (simS_asg (sim_pick (simA_cons sim_int (simA_cons sim_int (simA_cons sim_int (simA_cons sim_int simA_nil)))) (sim_call (dfl := []) (simA_cons sim_var (simA_cons sim_int simA_nil)) rfl rfl))) (simS_seq (simS_asg (sim_comp (js := [11]) (vs := [11]) simI_var simG_name (by decide) simT_yes (sim_bin (sim_slice sim_var simP_none (simP_some sim_int)) (sim_tup (simA_cons (sim_bin (sim_ix sim_var sim_int) sim_var sim_add) (simA_cons (sim_if (simT_of (sim_isN (sim_ix sim_var sim_int))) sim_non (sim_bin (sim_ix sim_var sim_int) sim_var sim_add)) (simA_cons (sim_ix sim_var sim_int) simA_nil)))) sim_add))) (simS_seq (simS_asg (sim_call (dfl := []) (simA_cons sim_var simA_nil) rfl rfl)) (simS_seq (simS_asg (sim_blt (simA_cons sim_var simA_nil) sim_list)) (simS_for (simI_range sim_int) tg_name (simS_seq (simS_asg (sim_call (dfl := []) (simA_cons sim_var simA_nil) rfl rfl)) (simS_seq (simS_if (simT_or (simT_test (sim_bin (sim_isN sim_var) sim_var sim_eq)) (simT_test (sim_bin sim_var sim_var sim_ne))) (simS_ret sim_bl) simS_nil) (simS_if (simT_of (sim_notN sim_var)) (simS_seq (simS_if (simT_not (simT_of (sim_call (dfl := []) (simA_cons sim_var (simA_cons sim_var simA_nil)) rfl rfl))) (simS_ret sim_bl) simS_nil) (simS_appV sim_int)) simS_nil)))))))))) (simS_seq (simS_asg (sim_bin sim_int (sim_call (dfl := []) (simA_cons sim_var (simA_cons sim_int simA_nil)) rfl rfl) sim_add)) (simS_seq (simS_asg (sim_lst (simA_cons (sim_tup (simA_cons sim_int (simA_cons (sim_tup (simA_cons sim_str (simA_cons (sim_tup (simA_cons (sim_tup (simA_cons sim_int (simA_cons sim_var simA_nil))) simA_nil)) simA_nil))) (simA_cons sim_int (simA_cons sim_int (simA_cons (sim_tup (simA_cons sim_int simA_nil)) simA_nil)))))) (simA_cons (sim_tup (simA_cons sim_int (simA_cons (sim_tup (simA_cons sim_str (simA_cons sim_int (simA_cons sim_int (simA_cons sim_var simA_nil))))) (simA_cons sim_int (simA_cons sim_int (simA_cons sim_bl simA_nil)))))) simA_nil)))) (simS_seq (simS_asg (sim_bin (sim_slice sim_var simP_none (simP_some sim_int)) (sim_lst (simA_cons (sim_tup (simA_cons sim_int (simA_cons (sim_tup (simA_cons sim_str (simA_cons sim_int (simA_cons sim_int (simA_cons (sim_bin sim_var sim_int sim_add) simA_nil))))) (simA_cons sim_int (simA_cons sim_int (simA_cons sim_bl simA_nil)))))) simA_nil)) sim_add)) (simS_ret (sim_and (sim_call (dfl := []) (simA_cons (sim_call (dfl := []) (simA_cons sim_var simA_nil) rfl rfl) (simA_cons (sim_lst (simA_cons sim_int (simA_cons sim_int simA_nil))) simA_nil)) rfl rfl) (sim_isN (sim_call (dfl := []) (simA_cons sim_var simA_nil) rfl rfl)))))))))
theorem ok_law (T : Fx K mg) {f : Addr} {fd : FuncData} (F : FnP K "law" "law" st_law [] f fd) (G__law_dice : Kn P w K mg base 1 "_law_dice" ["_law_script", "_law_k"] [] (spOf (Wv P w K CA) 2 ev__law_dice)) (G__law_history : Kn P w K mg base 5 "_law_history" ["_law_d", "_law_most"] [] (spOf (Wv P w K CA) 2 ev__law_history)) (G__law_off : Kn P w K mg base 1 "_law_off" ["_law_d", "_law_most"] [] (spOf (Wv P w K CA) 2 ev__law_off)) (G__law_explained : Kn P w K mg base 83 "_law_explained" ["_law_rows"] [] (spOf (Wv P w K CA) 1 ev__law_explained)) (G_judged : Kn P w K mg base 43 "judged" ["rows"] [] (spOf (Wv P w K CA) 1 ev_judged)) (G__law_order : Kn P w K mg base 42 "_law_order" ["_law_rows", "_law_order_here"] [] (spOf (Wv P w K CA) 2 ev__law_order)) (G__law_alike : Kn P w K mg base 41 "_law_alike" ["_law_found", "_law_due"] [] (spOf (Wv P w K CA) 2 (ev__law_alike 40)))  : FnOk P w K mg base CX0 84 f fd ["_law_script"] (spOf (Wv P w K CA) 1 ev_law) := by
  have sc := sc_law
  refine fn_ok F sc fun cdv A outer s H E hr => ⟨t_law P w K CA, ?_, sim_law⟩
  exact (pss_cons (ps_set (i := 1) sc.nd rfl (by first | exact .inl rfl | exact .inr rfl) (pe_kn G__law_dice (hr.mono (by omega)) (by rfl) (pa_cons (pv 0) (pa_cons pe_int pa_nil)))) (pss_cons (ps_for PassesOwn.never rfl (pi_range1 (by rfl) T.b_range (pa_cons pe_int pa_nil)) (pg_name (i := 2) sc.nd rfl (by first | exact .inl rfl | exact .inr rfl)) (pss_cons (ps_set (i := 4) sc.nd rfl (by first | exact .inl rfl | exact .inr rfl) (pe_kn G__law_history (hr.mono (by omega)) (by rfl) (pa_cons (pv 1) (pa_cons (pe_ixA (hu_of hr) (pe_lst (pa_cons pe_int (pa_cons pe_int (pa_cons pe_int pa_nil)))) (pe_kn G__law_off (hr.mono (by omega)) (by rfl) (pa_cons (pv 1) (pa_cons pe_int pa_nil))) (fun _ _ => rfl)) pa_nil)))) (pss_cons (ps_set (i := 6) sc.nd rfl (by first | exact .inl rfl | exact .inr rfl) (pe_ixA (hu_of hr) (pe_lst (pa_cons pe_int (pa_cons pe_int (pa_cons pe_int (pa_cons pe_int pa_nil))))) (pe_kn G__law_off (hr.mono (by omega)) (by rfl) (pa_cons (pv 1) (pa_cons pe_int pa_nil))) (fun _ _ => rfl))) (pss_cons (ps_setLc (i := 4) (own := [("_law_row", 11)]) rfl sc.nd rfl rfl (sw_true rfl rfl rfl (by kernel_rfl)) (pi_seq (pv 4)) (blkOk_by (by kernel_rfl)) (fun _ _ _ _ _ => (pg_name (i := 11) sc.nd rfl (by first | exact .inl rfl | exact .inr rfl))) (fun _ _ _ _ _ => pts_nil) (fun _ _ _ _ _ => (pe_op op_addA (pe_slice sl_any (pv 11) po_none (po_some pe_int)) (pe_tup (pa_cons (pe_op op_addA (pe_ixA (hu_of hr) (pv 11) pe_int (fun _ _ => rfl)) (pv 6)) (pa_cons (pe_ifExp (pt_cmp (pc_isN (pe_ixA (hu_of hr) (pv 11) pe_int (fun _ _ => rfl))) rfl) pe_non (pe_op op_addA (pe_ixA (hu_of hr) (pv 11) pe_int (fun _ _ => rfl)) (pv 6))) (pa_cons (pe_ixA (hu_of hr) (pv 11) pe_int (fun _ _ => rfl)) pa_nil))))))) (pss_cons (ps_set (i := 7) sc.nd rfl (by first | exact .inl rfl | exact .inr rfl) (pe_kn G__law_explained (hr.mono (by omega)) (by rfl) (pa_cons (pv 4) pa_nil))) (pss_cons (ps_set (i := 8) sc.nd rfl (by first | exact .inl rfl | exact .inr rfl) (pe_callTy call_list_of (by rfl) T.b_list bb_list (pa_cons (pv 4) pa_nil))) (pss_one (ps_for PassesOwn.never rfl (pi_range1 (by rfl) T.b_range (pa_cons pe_int pa_nil)) (pg_name (i := 9) sc.nd rfl (by first | exact .inl rfl | exact .inr rfl)) (pss_cons (ps_set (i := 10) sc.nd rfl (by first | exact .inl rfl | exact .inr rfl) (pe_kn G_judged (hr.mono (by omega)) (by rfl) (pa_cons (pv 8) pa_nil))) (pss_cons (ps_if (PW.pt (pw_or (pt_cmpR (op_eqD hr.units) (pe_cmp (pc_isN (pv 10)) rfl) (pv 7) (nomark _)) (pw_or1 (pt_cmpR (op_neD hr.units) (pv 8) (pv 4) (nomark _))))) (pss_one (ps_ret pe_bl)) pss_nil) (pss_one (ps_if (pt_cmp (pc_notN (pv 10)) rfl) (pss_cons (ps_if (pt_not (pt_val (pe_kn G__law_order (hr.mono (by omega)) (by rfl) (pa_cons (pv 4) (pa_cons (pv 10) pa_nil))))) (pss_one (ps_ret pe_bl)) pss_nil) (pss_one (ps_expr (pe_bm PySem.F.plainAttrs_list PySem.F.slot_list_append PySem.F.type_list_append mt_append (pv 10) (pa_cons pe_int pa_nil))))) pss_nil)))))))))))) (pss_cons (ps_set (i := 3) sc.nd rfl (by first | exact .inl rfl | exact .inr rfl) (pe_op op_addA pe_int (pe_kn G__law_off (hr.mono (by omega)) (by rfl) (pa_cons (pv 1) (pa_cons pe_int pa_nil))))) (pss_cons (ps_set (i := 4) sc.nd rfl (by first | exact .inl rfl | exact .inr rfl) (pe_lst (pa_cons (pe_tup (pa_cons pe_int (pa_cons (pe_tup (pa_cons pe_str (pa_cons (pe_tup (pa_cons (pe_tup (pa_cons pe_int (pa_cons (pv 3) pa_nil))) pa_nil)) pa_nil))) (pa_cons pe_int (pa_cons pe_int (pa_cons (pe_tup (pa_cons pe_int pa_nil)) pa_nil)))))) (pa_cons (pe_tup (pa_cons pe_int (pa_cons (pe_tup (pa_cons pe_str (pa_cons pe_int (pa_cons pe_int (pa_cons (pv 3) pa_nil))))) (pa_cons pe_int (pa_cons pe_int (pa_cons pe_bl pa_nil)))))) pa_nil)))) (pss_cons (ps_set (i := 5) sc.nd rfl (by first | exact .inl rfl | exact .inr rfl) (pe_op op_addA (pe_slice sl_any (pv 4) po_none (po_some pe_int)) (pe_lst (pa_cons (pe_tup (pa_cons pe_int (pa_cons (pe_tup (pa_cons pe_str (pa_cons pe_int (pa_cons pe_int (pa_cons (pe_op op_addA (pv 3) pe_int) pa_nil))))) (pa_cons pe_int (pa_cons pe_int (pa_cons pe_bl pa_nil)))))) pa_nil)))) (pss_one (ps_ret (pe_and (pe_kn G__law_alike (hr.mono (by omega)) (by rfl) (pa_cons (pe_kn G_judged (hr.mono (by omega)) (by rfl) (pa_cons (pv 4) pa_nil)) (pa_cons (pe_lst (pa_cons pe_int (pa_cons pe_int pa_nil))) pa_nil))) (pe_one (pe_cmp (pc_isN (pe_kn G_judged (hr.mono (by omega)) (by rfl) (pa_cons (pv 5) pa_nil))) rfl))))))))))
end
end Ev

set_option Elab.async false
set_option linter.all false
set_option maxRecDepth 100000
set_option maxHeartbeats 0
namespace Ev
open PySem PySem.Spec PyProof.Rows L2
def d__law_dice : He.DefD := ⟨("_law_dice", none), "_law_dice", "_law_dice", defArgs st__law_dice, defBody st__law_dice, defScope st__law_dice, [], []⟩
def d__law_off : He.DefD := ⟨("_law_off", none), "_law_off", "_law_off", defArgs st__law_off, defBody st__law_off, defScope st__law_off, [], []⟩
def d__law_mixed : He.DefD := ⟨("_law_mixed", none), "_law_mixed", "_law_mixed", defArgs st__law_mixed, defBody st__law_mixed, defScope st__law_mixed, [], []⟩
def d__law_some : He.DefD := ⟨("_law_some", none), "_law_some", "_law_some", defArgs st__law_some, defBody st__law_some, defScope st__law_some, [], []⟩
def d__law_files : He.DefD := ⟨("_law_files", none), "_law_files", "_law_files", defArgs st__law_files, defBody st__law_files, defScope st__law_files, [], []⟩
def d__law_deed : He.DefD := ⟨("_law_deed", none), "_law_deed", "_law_deed", defArgs st__law_deed, defBody st__law_deed, defScope st__law_deed, [], []⟩
def d__law_done : He.DefD := ⟨("_law_done", none), "_law_done", "_law_done", defArgs st__law_done, defBody st__law_done, defScope st__law_done, [], []⟩
def d__law_history : He.DefD := ⟨("_law_history", none), "_law_history", "_law_history", defArgs st__law_history, defBody st__law_history, defScope st__law_history, [], []⟩
def d__law_alike : He.DefD := ⟨("_law_alike", none), "_law_alike", "_law_alike", defArgs st__law_alike, defBody st__law_alike, defScope st__law_alike, [], []⟩
def d__law_is_held : He.DefD := ⟨("_law_is_held", none), "_law_is_held", "_law_is_held", defArgs st__law_is_held, defBody st__law_is_held, defScope st__law_is_held, [], []⟩
def d__law_fits : He.DefD := ⟨("_law_fits", none), "_law_fits", "_law_fits", defArgs st__law_fits, defBody st__law_fits, defScope st__law_fits, [], []⟩
def d__law_explained : He.DefD := ⟨("_law_explained", none), "_law_explained", "_law_explained", defArgs st__law_explained, defBody st__law_explained, defScope st__law_explained, [], []⟩
def d_is_below : He.DefD := ⟨("is_below", none), "is_below", "is_below", defArgs st_is_below, defBody st_is_below, defScope st_is_below, [], []⟩
def d_is_answer : He.DefD := ⟨("is_answer", none), "is_answer", "is_answer", defArgs st_is_answer, defBody st_is_answer, defScope st_is_answer, [], []⟩
def d_are_rising : He.DefD := ⟨("are_rising", none), "are_rising", "are_rising", defArgs st_are_rising, defBody st_are_rising, defScope st_are_rising, [], []⟩
def d_are_pairs : He.DefD := ⟨("are_pairs", none), "are_pairs", "are_pairs", defArgs st_are_pairs, defBody st_are_pairs, defScope st_are_pairs, [], []⟩
def d_is_deed : He.DefD := ⟨("is_deed", none), "is_deed", "is_deed", defArgs st_is_deed, defBody st_is_deed, defScope st_is_deed, [], []⟩
def d_is_plain : He.DefD := ⟨("is_plain", none), "is_plain", "is_plain", defArgs st_is_plain, defBody st_is_plain, defScope st_is_plain, [], []⟩
def d_is_row : He.DefD := ⟨("is_row", none), "is_row", "is_row", defArgs st_is_row, defBody st_is_row, defScope st_is_row, [], []⟩
def d_need_history : He.DefD := ⟨("need_history", none), "need_history", "need_history", defArgs st_need_history, defBody st_need_history, defScope st_need_history, [], []⟩
def d_may_be_next : He.DefD := ⟨("may_be_next", none), "may_be_next", "may_be_next", defArgs st_may_be_next, defBody st_may_be_next, defScope st_may_be_next, [], []⟩
def d_done : He.DefD := ⟨("done", none), "done", "done", defArgs st_done, defBody st_done, defScope st_done, [], []⟩
def d_like : He.DefD := ⟨("like", none), "like", "like", defArgs st_like, defBody st_like, defScope st_like, [], []⟩
def d_order_of : He.DefD := ⟨("order_of", none), "order_of", "order_of", defArgs st_order_of, defBody st_order_of, defScope st_order_of, [], []⟩
def d_judged : He.DefD := ⟨("judged", none), "judged", "judged", defArgs st_judged, defBody st_judged, defScope st_judged, [], []⟩
def d__law_order : He.DefD := ⟨("_law_order", none), "_law_order", "_law_order", defArgs st__law_order, defBody st__law_order, defScope st__law_order, [], []⟩
def d_law : He.DefD := ⟨("law", none), "law", "law", defArgs st_law, defBody st_law, defScope st_law, [], []⟩
def hfn : List He.DefD := [d__law_dice, d__law_off, d__law_mixed, d__law_some, d__law_files, d__law_deed, d__law_done, d__law_history, d__law_alike, d__law_is_held, d__law_fits, d__law_explained, d_is_below, d_is_answer, d_are_rising, d_are_pairs, d_is_deed, d_is_plain, d_is_row, d_need_history, d_may_be_next, d_done, d_like, d_order_of, d_judged, d__law_order, d_law]
def hfa : List He.Fa := ([.glo "_law_dice", .glo "_law_off", .glo "_law_mixed", .glo "_law_some", .glo "_law_files", .glo "_law_deed", .glo "_law_done", .glo "_law_history", .glo "_law_alike", .glo "_law_is_held", .glo "_law_fits", .glo "_law_explained", .glo "is_below", .glo "is_answer", .glo "are_rising", .glo "are_pairs", .glo "is_deed", .glo "is_plain", .glo "is_row", .glo "need_history", .glo "may_be_next", .glo "done", .glo "like", .glo "order_of", .glo "judged", .glo "_law_order", .glo "law", .free "abs", .free "all", .free "bool"] : List He.Fa) ++ ([.free "enumerate", .free "int", .free "isinstance", .free "len", .free "list", .free "max", .free "min", .free "range", .free "set", .free "sorted", .free "str", .free "tuple", .int "FILES" 10, .int "MOMENTS" 10000, .int "MOST_FILES" 4, .int "MOST_ROWS" 12, .glo "PLAIN", .int "USERS" 100, .int "WORTHS" 1000] : List He.Fa)
def hex (K : PySem.W.Frag) : Bool := He.tupB K "PLAIN" [.str "look", .str "put", .str "add", .str "move"]
abbrev hR : PySem.W.OpenRow := PySem.W.OpenLaw.row PySem.Challenge.rw_lentfiles_k02_whole_histories_judged
abbrev hhk : PySem.W.Hook := hookB 4 hfa hfn hex
def hob (s : PySem.W.SharedT) : AlB := obsBG 4 hfa hfn hex (HandSHeadRun.getT s)
theorem hob_eq (s : PySem.W.SharedT) : hob s = hhk.obs s.abs := obsBG_eq (HandSHeadRun.getT_eq s)
def loose : List PySem.Str := (["LentError", "BadHistory", "FILES", "WORTHS", "MOST_FILES", "PLAIN", "is_below", "are_rising", "are_pairs", "is_deed", "is_plain", "done", "MOST_ROWS", "USERS", "MOMENTS", "is_row", "need_history", "may_be_next", "like", "order_of", "judged", "is_answer", "_law_dice", "_law_off", "_law_alike", "_law_mixed", "_law_files", "_law_deed", "_law_done", "_law_fits"] : List PySem.Str) ++ (["_law_explained", "_law_history", "_law_is_held", "_law_some", "_law_order"] : List PySem.Str)
theorem hrun (w : World) : HandSHeadRun.RunEq hR (PySem.W.view hR.prog [39]) hhk hob 4000 loose w := by
  intro os
  kernel_rfl
section
variable {P : Program} {w : World} {K : PySem.W.Frag} {h : Heap} {mg : Str → Option Value} {f : Addr}
theorem fx_of (X : K.In h) (G : h.Ns mainGlobals mg) (c : SaysB hfa hfn hex K) : Fx K mg where
  b_abs := He.free_ok X G (c.1.fact 27 (f := .free "abs") rfl)
  b_all := He.free_ok X G (c.1.fact 28 (f := .free "all") rfl)
  b_bool := He.free_ok X G (c.1.fact 29 (f := .free "bool") rfl)
  b_enumerate := He.free_ok X G (c.1.fact 30 (f := .free "enumerate") rfl)
  b_int := He.free_ok X G (c.1.fact 31 (f := .free "int") rfl)
  b_isinstance := He.free_ok X G (c.1.fact 32 (f := .free "isinstance") rfl)
  b_len := He.free_ok X G (c.1.fact 33 (f := .free "len") rfl)
  b_list := He.free_ok X G (c.1.fact 34 (f := .free "list") rfl)
  b_max := He.free_ok X G (c.1.fact 35 (f := .free "max") rfl)
  b_min := He.free_ok X G (c.1.fact 36 (f := .free "min") rfl)
  b_range := He.free_ok X G (c.1.fact 37 (f := .free "range") rfl)
  b_set := He.free_ok X G (c.1.fact 38 (f := .free "set") rfl)
  b_sorted := He.free_ok X G (c.1.fact 39 (f := .free "sorted") rfl)
  b_str := He.free_ok X G (c.1.fact 40 (f := .free "str") rfl)
  b_tuple := He.free_ok X G (c.1.fact 41 (f := .free "tuple") rfl)
  c_FILES := He.int_ok X G (c.1.fact 42 (f := .int "FILES" 10) rfl)
  c_MOMENTS := He.int_ok X G (c.1.fact 43 (f := .int "MOMENTS" 10000) rfl)
  c_MOST_FILES := He.int_ok X G (c.1.fact 44 (f := .int "MOST_FILES" 4) rfl)
  c_MOST_ROWS := He.int_ok X G (c.1.fact 45 (f := .int "MOST_ROWS" 12) rfl)
  c_PLAIN := wr_of (vs := [.str "look", .str "put", .str "add", .str "move"]) (He.glo_ok X G (c.1.fact 46 (f := .glo "PLAIN") rfl)) c.2
  c_USERS := He.int_ok X G (c.1.fact 47 (f := .int "USERS" 100) rfl)
  c_WORTHS := He.int_ok X G (c.1.fact 48 (f := .int "WORTHS" 1000) rfl)
theorem facts (X : K.In h) (G : h.Ns mainGlobals mg) (hfa0 : mg ("law" : Str) = some (.ref f)) (CA : Nat → Addr) (c : SaysB hfa hfn hex K) :
    ∃ fd : FuncData, (∀ (s : Shared) (v : Value), BindsTo s fd ⟨[v], []⟩ [("_law_script", v)]) ∧ ∀ base : Heap, K.In base → base.Ns mainGlobals mg → FnOk P w K mg base CX0 84 f fd ["_law_script"] (spOf (Wv P w K CA) 1 ev_law) := by
  have T := fx_of X G c
  obtain ⟨fd__law_dice, F__law_dice⟩ := c.1.def_ 0 (d := d__law_dice) rfl
  have g__law_dice := He.glo_ok X G (c.1.fact 0 (f := .glo "_law_dice") rfl)
  obtain ⟨fd__law_off, F__law_off⟩ := c.1.def_ 1 (d := d__law_off) rfl
  have g__law_off := He.glo_ok X G (c.1.fact 1 (f := .glo "_law_off") rfl)
  obtain ⟨fd__law_mixed, F__law_mixed⟩ := c.1.def_ 2 (d := d__law_mixed) rfl
  have g__law_mixed := He.glo_ok X G (c.1.fact 2 (f := .glo "_law_mixed") rfl)
  obtain ⟨fd__law_some, F__law_some⟩ := c.1.def_ 3 (d := d__law_some) rfl
  have g__law_some := He.glo_ok X G (c.1.fact 3 (f := .glo "_law_some") rfl)
  obtain ⟨fd__law_files, F__law_files⟩ := c.1.def_ 4 (d := d__law_files) rfl
  have g__law_files := He.glo_ok X G (c.1.fact 4 (f := .glo "_law_files") rfl)
  obtain ⟨fd__law_deed, F__law_deed⟩ := c.1.def_ 5 (d := d__law_deed) rfl
  have g__law_deed := He.glo_ok X G (c.1.fact 5 (f := .glo "_law_deed") rfl)
  obtain ⟨fd__law_done, F__law_done⟩ := c.1.def_ 6 (d := d__law_done) rfl
  have g__law_done := He.glo_ok X G (c.1.fact 6 (f := .glo "_law_done") rfl)
  obtain ⟨fd__law_history, F__law_history⟩ := c.1.def_ 7 (d := d__law_history) rfl
  have g__law_history := He.glo_ok X G (c.1.fact 7 (f := .glo "_law_history") rfl)
  obtain ⟨fd__law_alike, F__law_alike⟩ := c.1.def_ 8 (d := d__law_alike) rfl
  have g__law_alike := He.glo_ok X G (c.1.fact 8 (f := .glo "_law_alike") rfl)
  obtain ⟨fd__law_is_held, F__law_is_held⟩ := c.1.def_ 9 (d := d__law_is_held) rfl
  have g__law_is_held := He.glo_ok X G (c.1.fact 9 (f := .glo "_law_is_held") rfl)
  obtain ⟨fd__law_fits, F__law_fits⟩ := c.1.def_ 10 (d := d__law_fits) rfl
  have g__law_fits := He.glo_ok X G (c.1.fact 10 (f := .glo "_law_fits") rfl)
  obtain ⟨fd__law_explained, F__law_explained⟩ := c.1.def_ 11 (d := d__law_explained) rfl
  have g__law_explained := He.glo_ok X G (c.1.fact 11 (f := .glo "_law_explained") rfl)
  obtain ⟨fd_is_below, F_is_below⟩ := c.1.def_ 12 (d := d_is_below) rfl
  have g_is_below := He.glo_ok X G (c.1.fact 12 (f := .glo "is_below") rfl)
  obtain ⟨fd_is_answer, F_is_answer⟩ := c.1.def_ 13 (d := d_is_answer) rfl
  have g_is_answer := He.glo_ok X G (c.1.fact 13 (f := .glo "is_answer") rfl)
  obtain ⟨fd_are_rising, F_are_rising⟩ := c.1.def_ 14 (d := d_are_rising) rfl
  have g_are_rising := He.glo_ok X G (c.1.fact 14 (f := .glo "are_rising") rfl)
  obtain ⟨fd_are_pairs, F_are_pairs⟩ := c.1.def_ 15 (d := d_are_pairs) rfl
  have g_are_pairs := He.glo_ok X G (c.1.fact 15 (f := .glo "are_pairs") rfl)
  obtain ⟨fd_is_deed, F_is_deed⟩ := c.1.def_ 16 (d := d_is_deed) rfl
  have g_is_deed := He.glo_ok X G (c.1.fact 16 (f := .glo "is_deed") rfl)
  obtain ⟨fd_is_plain, F_is_plain⟩ := c.1.def_ 17 (d := d_is_plain) rfl
  have g_is_plain := He.glo_ok X G (c.1.fact 17 (f := .glo "is_plain") rfl)
  obtain ⟨fd_is_row, F_is_row⟩ := c.1.def_ 18 (d := d_is_row) rfl
  have g_is_row := He.glo_ok X G (c.1.fact 18 (f := .glo "is_row") rfl)
  obtain ⟨fd_need_history, F_need_history⟩ := c.1.def_ 19 (d := d_need_history) rfl
  have g_need_history := He.glo_ok X G (c.1.fact 19 (f := .glo "need_history") rfl)
  obtain ⟨fd_may_be_next, F_may_be_next⟩ := c.1.def_ 20 (d := d_may_be_next) rfl
  have g_may_be_next := He.glo_ok X G (c.1.fact 20 (f := .glo "may_be_next") rfl)
  obtain ⟨fd_done, F_done⟩ := c.1.def_ 21 (d := d_done) rfl
  have g_done := He.glo_ok X G (c.1.fact 21 (f := .glo "done") rfl)
  obtain ⟨fd_like, F_like⟩ := c.1.def_ 22 (d := d_like) rfl
  have g_like := He.glo_ok X G (c.1.fact 22 (f := .glo "like") rfl)
  obtain ⟨fd_order_of, F_order_of⟩ := c.1.def_ 23 (d := d_order_of) rfl
  have g_order_of := He.glo_ok X G (c.1.fact 23 (f := .glo "order_of") rfl)
  obtain ⟨fd_judged, F_judged⟩ := c.1.def_ 24 (d := d_judged) rfl
  have g_judged := He.glo_ok X G (c.1.fact 24 (f := .glo "judged") rfl)
  obtain ⟨fd__law_order, F__law_order⟩ := c.1.def_ 25 (d := d__law_order) rfl
  have g__law_order := He.glo_ok X G (c.1.fact 25 (f := .glo "_law_order") rfl)
  obtain ⟨fd_law, F_law⟩ := c.1.def_ 26 (d := d_law) rfl
  have g_law := He.glo_ok X G (c.1.fact 26 (f := .glo "law") rfl)
  have e := hfa0.symm.trans g_law
  cases e
  have b := FunD.bindsA (ps := ["_law_script"]) F_law fun _ _ _ _ _ _ us hl => match us, hl with | [_], _ => rfl
  refine ⟨fd_law, fun s v => b s [v] rfl, fun base _ _ => ?_⟩
  have G__law_dice : Kn P w K mg base 1 "_law_dice" ["_law_script", "_law_k"] [] (spOf (Wv P w K CA) 2 ev__law_dice) := ⟨⟨_, _, [], ok__law_dice T F__law_dice , g__law_dice, F__law_dice.kp, F__law_dice.bindsN (fun _ _ _ _ _ _ us hl => match us, hl with | [_, _], _ => rfl), .nil⟩⟩
  have G__law_off : Kn P w K mg base 1 "_law_off" ["_law_d", "_law_most"] [] (spOf (Wv P w K CA) 2 ev__law_off) := ⟨⟨_, _, [], ok__law_off T F__law_off , g__law_off, F__law_off.kp, F__law_off.bindsN (fun _ _ _ _ _ _ us hl => match us, hl with | [_, _], _ => rfl), .nil⟩⟩
  have G__law_mixed : Kn P w K mg base 2 "_law_mixed" ["_law_d", "_law_row"] [] (spOf (Wv P w K CA) 2 ev__law_mixed) := ⟨⟨_, _, [], ok__law_mixed T F__law_mixed G__law_off, g__law_mixed, F__law_mixed.kp, F__law_mixed.bindsN (fun _ _ _ _ _ _ us hl => match us, hl with | [_, _], _ => rfl), .nil⟩⟩
  have G__law_some : Kn P w K mg base 1 "_law_some" ["_law_few"] [] (spOf (Wv P w K CA) 1 ev__law_some) := ⟨⟨_, _, [], ok__law_some T F__law_some , g__law_some, F__law_some.kp, F__law_some.bindsN (fun _ _ _ _ _ _ us hl => match us, hl with | [_], _ => rfl), .nil⟩⟩
  have G__law_files : Kn P w K mg base 3 "_law_files" ["_law_d", "_law_few"] [] (spOf (Wv P w K CA) 2 ev__law_files) := ⟨⟨_, _, [], ok__law_files T F__law_files G__law_mixed G__law_some G__law_off, g__law_files, F__law_files.kp, F__law_files.bindsN (fun _ _ _ _ _ _ us hl => match us, hl with | [_, _], _ => rfl), .nil⟩⟩
  have G__law_deed : Kn P w K mg base 4 "_law_deed" ["_law_d", "_law_few"] [] (spOf (Wv P w K CA) 2 ev__law_deed) := ⟨⟨_, _, [], ok__law_deed T F__law_deed G__law_off G__law_files G__law_some G__law_mixed, g__law_deed, F__law_deed.kp, F__law_deed.bindsN (fun _ _ _ _ _ _ us hl => match us, hl with | [_, _], _ => rfl), .nil⟩⟩
  have G__law_done : Kn P w K mg base 1 "_law_done" ["_law_worths", "_law_deed_here"] [] (spOf (Wv P w K CA) 2 ev__law_done) := ⟨⟨_, _, [], ok__law_done T F__law_done , g__law_done, F__law_done.kp, F__law_done.bindsN (fun _ _ _ _ _ _ us hl => match us, hl with | [_, _], _ => rfl), .nil⟩⟩
  have G__law_history : Kn P w K mg base 5 "_law_history" ["_law_d", "_law_most"] [] (spOf (Wv P w K CA) 2 ev__law_history) := ⟨⟨_, _, [], ok__law_history T F__law_history G__law_off G__law_deed G__law_done, g__law_history, F__law_history.kp, F__law_history.bindsN (fun _ _ _ _ _ _ us hl => match us, hl with | [_, _], _ => rfl), .nil⟩⟩
  have G__law_alike : Kn P w K mg base 41 "_law_alike" ["_law_found", "_law_due"] [] (spOf (Wv P w K CA) 2 (ev__law_alike 40)) := by
    have all : ∀ n, Kn P w K mg base (1 + n) "_law_alike" ["_law_found", "_law_due"] [] (spOf (Wv P w K CA) 2 (ev__law_alike n)) := fun n => by
      induction n with
      | zero => exact ⟨⟨_, _, [], kn_none rfl, g__law_alike, F__law_alike.kp, F__law_alike.bindsN (fun _ _ _ _ _ _ us hl => match us, hl with | [_, _], _ => rfl), .nil⟩⟩
      | succ n ih => exact ⟨⟨_, _, [], ok__law_alike T F__law_alike  (ev__law_alike n) ih, g__law_alike, F__law_alike.kp, F__law_alike.bindsN (fun _ _ _ _ _ _ us hl => match us, hl with | [_, _], _ => rfl), .nil⟩⟩
    exact all 40
  have G__law_is_held : Kn P w K mg base 1 "_law_is_held" ["_law_rows", "_law_left", "_law_one"] [] (spOf (Wv P w K CA) 3 ev__law_is_held) := ⟨⟨_, _, [], ok__law_is_held T F__law_is_held , g__law_is_held, F__law_is_held.kp, F__law_is_held.bindsN (fun _ _ _ _ _ _ us hl => match us, hl with | [_, _, _], _ => rfl), .nil⟩⟩
  have G__law_fits : Kn P w K mg base 82 "_law_fits" ["_law_rows", "_law_left", "_law_worths", "_law_dead"] [] (spOf (Wv P w K CA) 4 (ev__law_fits 40)) := by
    have all : ∀ n, Kn P w K mg base (42 + n) "_law_fits" ["_law_rows", "_law_left", "_law_worths", "_law_dead"] [] (spOf (Wv P w K CA) 4 (ev__law_fits n)) := fun n => by
      induction n with
      | zero => exact ⟨⟨_, _, [], kn_none rfl, g__law_fits, F__law_fits.kp, F__law_fits.bindsN (fun _ _ _ _ _ _ us hl => match us, hl with | [_, _, _, _], _ => rfl), .nil⟩⟩
      | succ n ih => exact ⟨⟨_, _, [], ok__law_fits T F__law_fits G__law_is_held G__law_done G__law_alike (ev__law_fits n) ih, g__law_fits, F__law_fits.kp, F__law_fits.bindsN (fun _ _ _ _ _ _ us hl => match us, hl with | [_, _, _, _], _ => rfl), .nil⟩⟩
    exact all 40
  have G__law_explained : Kn P w K mg base 83 "_law_explained" ["_law_rows"] [] (spOf (Wv P w K CA) 1 ev__law_explained) := ⟨⟨_, _, [], ok__law_explained T F__law_explained G__law_fits, g__law_explained, F__law_explained.kp, F__law_explained.bindsN (fun _ _ _ _ _ _ us hl => match us, hl with | [_], _ => rfl), .nil⟩⟩
  have G_is_below : Kn P w K mg base 1 "is_below" ["part", "bound"] [] (spOf (Wv P w K CA) 2 ev_is_below) := ⟨⟨_, _, [], ok_is_below T F_is_below , g_is_below, F_is_below.kp, F_is_below.bindsN (fun _ _ _ _ _ _ us hl => match us, hl with | [_, _], _ => rfl), .nil⟩⟩
  have G_is_answer : Kn P w K mg base 2 "is_answer" ["deed", "answer"] [] (spOf (Wv P w K CA) 2 ev_is_answer) := ⟨⟨_, _, [], ok_is_answer T F_is_answer G_is_below, g_is_answer, F_is_answer.kp, F_is_answer.bindsN (fun _ _ _ _ _ _ us hl => match us, hl with | [_, _], _ => rfl), .nil⟩⟩
  have G_are_rising : Kn P w K mg base 2 "are_rising" ["files"] [] (spOf (Wv P w K CA) 1 ev_are_rising) := ⟨⟨_, _, [], ok_are_rising T F_are_rising G_is_below, g_are_rising, F_are_rising.kp, F_are_rising.bindsN (fun _ _ _ _ _ _ us hl => match us, hl with | [_], _ => rfl), .nil⟩⟩
  have G_are_pairs : Kn P w K mg base 3 "are_pairs" ["pairs"] [] (spOf (Wv P w K CA) 1 ev_are_pairs) := ⟨⟨_, _, [], ok_are_pairs T F_are_pairs G_is_below G_are_rising, g_are_pairs, F_are_pairs.kp, F_are_pairs.bindsN (fun _ _ _ _ _ _ us hl => match us, hl with | [_], _ => rfl), .nil⟩⟩
  have G_is_deed : Kn P w K mg base 4 "is_deed" ["deed"] [] (spOf (Wv P w K CA) 1 ev_is_deed) := ⟨⟨_, _, [], ok_is_deed T F_is_deed G_are_rising G_are_pairs G_is_below, g_is_deed, F_is_deed.kp, F_is_deed.bindsN (fun _ _ _ _ _ _ us hl => match us, hl with | [_], _ => rfl), .nil⟩⟩
  have G_is_plain : Kn P w K mg base 5 "is_plain" ["deed"] [] (spOf (Wv P w K CA) 1 ev_is_plain) := ⟨⟨_, _, [], ok_is_plain T F_is_plain G_is_deed, g_is_plain, F_is_plain.kp, F_is_plain.bindsN (fun _ _ _ _ _ _ us hl => match us, hl with | [_], _ => rfl), .nil⟩⟩
  have G_is_row : Kn P w K mg base 6 "is_row" ["row"] [] (spOf (Wv P w K CA) 1 ev_is_row) := ⟨⟨_, _, [], ok_is_row T F_is_row G_is_plain G_is_below G_is_answer, g_is_row, F_is_row.kp, F_is_row.bindsN (fun _ _ _ _ _ _ us hl => match us, hl with | [_], _ => rfl), .nil⟩⟩
  have G_need_history : Kn P w K mg base 7 "need_history" ["rows"] [] (spOf (Wv P w K CA) 1 ev_need_history) := ⟨⟨_, _, [], ok_need_history T F_need_history G_is_row, g_need_history, F_need_history.kp, F_need_history.bindsN (fun _ _ _ _ _ _ us hl => match us, hl with | [_], _ => rfl), .nil⟩⟩
  have G_may_be_next : Kn P w K mg base 1 "may_be_next" ["rows", "left"] [] (spOf (Wv P w K CA) 2 ev_may_be_next) := ⟨⟨_, _, [], ok_may_be_next T F_may_be_next , g_may_be_next, F_may_be_next.kp, F_may_be_next.bindsN (fun _ _ _ _ _ _ us hl => match us, hl with | [_, _], _ => rfl), .nil⟩⟩
  have G_done : Kn P w K mg base 1 "done" ["worths", "deed"] [] (spOf (Wv P w K CA) 2 ev_done) := ⟨⟨_, _, [], ok_done T F_done , g_done, F_done.kp, F_done.bindsN (fun _ _ _ _ _ _ us hl => match us, hl with | [_, _], _ => rfl), .nil⟩⟩
  have G_like : Kn P w K mg base 1 "like" ["one", "other"] [] (spOf (Wv P w K CA) 2 ev_like) := ⟨⟨_, _, [], ok_like T F_like , g_like, F_like.kp, F_like.bindsN (fun _ _ _ _ _ _ us hl => match us, hl with | [_, _], _ => rfl), .nil⟩⟩
  have G_order_of : Kn P w K mg base 42 "order_of" ["rows", "left", "worths", "dead"] [] (spOf (Wv P w K CA) 4 (ev_order_of 40)) := by
    have all : ∀ n, Kn P w K mg base (2 + n) "order_of" ["rows", "left", "worths", "dead"] [] (spOf (Wv P w K CA) 4 (ev_order_of n)) := fun n => by
      induction n with
      | zero => exact ⟨⟨_, _, [], kn_none rfl, g_order_of, F_order_of.kp, F_order_of.bindsN (fun _ _ _ _ _ _ us hl => match us, hl with | [_, _, _, _], _ => rfl), .nil⟩⟩
      | succ n ih => exact ⟨⟨_, _, [], ok_order_of T F_order_of G_may_be_next G_done G_like (ev_order_of n) ih, g_order_of, F_order_of.kp, F_order_of.bindsN (fun _ _ _ _ _ _ us hl => match us, hl with | [_, _, _, _], _ => rfl), .nil⟩⟩
    exact all 40
  have G_judged : Kn P w K mg base 43 "judged" ["rows"] [] (spOf (Wv P w K CA) 1 ev_judged) := ⟨⟨_, _, [], ok_judged T F_judged G_need_history G_order_of, g_judged, F_judged.kp, F_judged.bindsN (fun _ _ _ _ _ _ us hl => match us, hl with | [_], _ => rfl), .nil⟩⟩
  have G__law_order : Kn P w K mg base 42 "_law_order" ["_law_rows", "_law_order_here"] [] (spOf (Wv P w K CA) 2 ev__law_order) := ⟨⟨_, _, [], ok__law_order T F__law_order G__law_alike G__law_done, g__law_order, F__law_order.kp, F__law_order.bindsN (fun _ _ _ _ _ _ us hl => match us, hl with | [_, _], _ => rfl), .nil⟩⟩
  exact ok_law T F_law G__law_dice G__law_history G__law_off G__law_explained G_judged G__law_order G__law_alike
end
/-- what is left: the run at every script -/
def LawRuns : Prop := ∀ ns : List Int, ns.length ≤ 63 → ∃ S', ev_law [.f (ns.map D.int)] [] = some (.v (.bl true), S')
end Ev
open PySem PySem.W PySem.Calls PyProof.Rows
theorem Ev.holds_of (hR : Ev.LawRuns) : PySem.Challenge.rw_lentfiles_k02_whole_histories_judged.Holds := by
  w_on; o_law
  refine HandSHeadRun.head_any (r := OpenLaw.row PySem.Challenge.rw_lentfiles_k02_whole_histories_judged) (q := view (OpenLaw.row PySem.Challenge.rw_lentfiles_k02_whole_histories_judged).prog [39]) (H := Ev.hhk) (ob := Ev.hob) (M := 4000) (loose := Ev.loose) (d := HandSHeadRun.topDef (OpenLaw.row PySem.Challenge.rw_lentfiles_k02_whole_histories_judged).prog 39) (kwd := []) Ev.hob_eq
    (by kernel_rfl) (fun s => by kernel_rfl) Ev.hrun (by kernel_rfl) (by kernel_rfl) (by kernel_rfl) (by rfl) (by first | assumption | decide +kernel) (by decide +kernel) ⟨rfl, rfl, rfl, rfl, rfl, by decide +kernel⟩ ?hw ?hc
  case hw => w_witness2
  case hc =>
    refine L2.walk_ofE (l := PySem.Challenge.rw_lentfiles_k02_whole_histories_judged) (n := 63) (k := 84) (x := "_law_script") (CX := L2.CX0) rfl (by decide) (by kernel_rfl) ⟨rfl, by decide, by decide⟩ ?F (fun _ _ _ _ z => z)
    intro w mg fa h Y G hmg0
    obtain ⟨K, KX, c⟩ := Y
    have hmg : mg ("law" : PySem.Str) = some (.ref fa) := by
      have e : (HandSHeadRun.topDef (OpenLaw.row PySem.Challenge.rw_lentfiles_k02_whole_histories_judged).prog 39).name = ("law" : PySem.Str) := by kernel_rfl
      rw [← e]
      exact hmg0
    obtain ⟨fd, hb, hF⟩ := Ev.facts (P := (PySem.Challenge.rw_lentfiles_k02_whole_histories_judged).prog) (w := w) KX G hmg (fun _ => 0) c
    exact ⟨K, fd, _, KX, hb, fun H a ns hl hO hS => Ev.law_sp (W := Ev.Wv _ w K (fun _ => 0)) hO hS (hR ns hl), hF⟩

set_option Elab.async false
set_option linter.all false
set_option maxRecDepth 100000
set_option maxHeartbeats 4000000
/-! Running the combinators. -/
namespace Ev
open PySem L2
section
variable {ρ : Env} {S : Store}
def iteB {α : Type} (x : Option Bool) (a b : Option α) : Option α := match x with
  | some true => a
  | some false => b
  | none => none
@[simp] theorem iteB_s {α : Type} {x : Bool} {a b : Option α} : iteB (some x) a b = if x = true then a else b := by cases x <;> rfl
@[simp] theorem iteB_n {α : Type} {a b : Option α} : iteB none a b = none := rfl
@[simp] theorem bnd_s {α β : Type} {x : α} {f : α → Store → Option β} : bnd (some (x, S)) f = f x S := rfl
@[simp] theorem bnd_n {α β : Type} {f : α → Store → Option β} : bnd none f = none := rfl
@[simp] theorem eLit_ {d : D} : eLit d ρ S = some (.v d, S) := rfl
@[simp] theorem eTrue_ : eTrue ρ S = some (.v (.bl true), S) := rfl
@[simp] theorem eCst_ {xs : List D} : eCst xs ρ S = some (.c xs, S) := rfl
def rdSl (s : Option Sl) : Option R := match s with
  | some (.v d) => some (.v d)
  | some (.l xs) => some (.b xs)
  | some (.b xs) => some (.b xs)
  | some (.f xs) => some (.f xs)
  | some (.d k kvs) => some (.bd k kvs)
  | _ => none
@[simp] theorem rdSl_v {d : D} : rdSl (some (.v d)) = some (.v d) := rfl
@[simp] theorem rdSl_l {d : List D} : rdSl (some (.l d)) = some (.b d) := rfl
@[simp] theorem rdSl_b {d : List D} : rdSl (some (.b d)) = some (.b d) := rfl
@[simp] theorem rdSl_f {d : List D} : rdSl (some (.f d)) = some (.f d) := rfl
@[simp] theorem rdSl_d {k : DK} {d : List (D × D)} : rdSl (some (.d k d)) = some (.bd k d) := rfl
@[simp] theorem eVar_ {i : Nat} : eVar i ρ S = (rdSl ρ[i]?).map fun r => (r, S) := by
  unfold eVar rdSl
  cases ρ[i]? with
  | none => rfl
  | some s => cases s <;> rfl
@[simp] theorem eBin_ {g : Store → R → R → Option R} {fa fb : E} : eBin g fa fb ρ S = bnd (fa ρ S) fun x S1 => bnd (fb ρ S1) fun y S2 => (g S2 x y).map fun z => (z, S2) := rfl
@[simp] theorem eUn_ {g : Store → R → Option R} {fa : E} : eUn g fa ρ S = bnd (fa ρ S) fun x S1 => (g S1 x).map fun z => (z, S1) := rfl
@[simp] theorem R.bool_bl {b : Bool} : (R.v (.bl b)).bool = some b := rfl
@[simp] theorem R.int_int {i : Int} : (R.v (.int i)).int = some i := rfl
@[simp] theorem R.flat_v {d : D} : (R.v d).flat = some d := rfl
@[simp] theorem eAnd_ {fa fb : E} : eAnd fa fb ρ S = bnd (fa ρ S) fun x S1 => iteB x.bool (fb ρ S1) (some (.v (.bl false), S1)) := by
  unfold eAnd iteB; cases fa ρ S with
  | none => rfl
  | some p =>
    simp only [bnd]
    all_goals
      cases p.1.bool with
      | none => rfl
      | some b => cases b <;> rfl
@[simp] theorem eOr_ {fa fb : E} : eOr fa fb ρ S = bnd (fa ρ S) fun x S1 => iteB x.bool (some (.v (.bl true), S1)) (fb ρ S1) := by
  unfold eOr iteB; cases fa ρ S with
  | none => rfl
  | some p =>
    simp only [bnd]
    all_goals
      cases p.1.bool with
      | none => rfl
      | some b => cases b <;> rfl
@[simp] theorem eIf_ {ft fa fb : E} : eIf ft fa fb ρ S = bnd (ft ρ S) fun x S1 => iteB x.bool (fa ρ S1) (fb ρ S1) := by
  unfold eIf iteB; rfl
@[simp] theorem gNot_ {b : Bool} : gNot S (.v (.bl b)) = some (.v (.bl !b)) := rfl
@[simp] theorem gIsN_ {x : R} : gIsN S x = some (.v (.bl x.isNone)) := rfl
@[simp] theorem gNotN_ {x : R} : gNotN S x = some (.v (.bl (!x.isNone))) := rfl
@[simp] theorem isNone_v {d : D} : (R.v d).isNone = decide (d = .non) := by cases d <;> simp [R.isNone]
@[simp] theorem isNone_l {d : List D} : (R.l d).isNone = false := rfl
@[simp] theorem isNone_b {d : List D} : (R.b d).isNone = false := rfl
@[simp] theorem gAddI {i j : Int} : gAdd S (.v (.int i)) (.v (.int j)) = some (.v (.int (i + j))) := rfl
@[simp] theorem gSubI {i j : Int} : Ev.gSub S (.v (.int i)) (.v (.int j)) = some (.v (.int (i - j))) := rfl
@[simp] theorem gLtI {i j : Int} : gLt S (.v (.int i)) (.v (.int j)) = some (.v (.bl (decide (i < j)))) := rfl
@[simp] theorem gLeI {i j : Int} : gLe S (.v (.int i)) (.v (.int j)) = some (.v (.bl (decide (i ≤ j)))) := rfl
@[simp] theorem gGtI {i j : Int} : gGt S (.v (.int i)) (.v (.int j)) = some (.v (.bl (decide (j < i)))) := rfl
@[simp] theorem gGeI {i j : Int} : gGe S (.v (.int i)) (.v (.int j)) = some (.v (.bl (decide (j ≤ i)))) := rfl
theorem gModI {i j : Int} (h : 0 < j) : gMod S (.v (.int i)) (.v (.int j)) = some (.v (.int (i % j))) := by simp [gMod, gI, h]
theorem gFdivI {i j : Int} (h : 0 < j) (h' : j < 1073741824) : gFdiv S (.v (.int i)) (.v (.int j)) = some (.v (.int (i / j))) := by simp [gFdiv, gI, h, h']
theorem gMulI {i j : Int} (h : (small64 i || small64 j) = true) : gMul S (.v (.int i)) (.v (.int j)) = some (.v (.int (i * j))) := by simp [gMul, h]
/-! ### equality of data -/
def eqD (a b : D) : Bool := PyData.eqv (toPD a) (toPD b)
def eqDs (a b : List D) : Bool := PyData.eqvAll (toPDs a) (toPDs b)
@[simp] theorem eqD_int {i j : Int} : eqD (.int i) (.int j) = decide (i = j) := by simp [eqD, toPD, PyData.eqv]; rfl
@[simp] theorem eqD_str {i j : Str} : eqD (.str i) (.str j) = decide (i = j) := by simp [eqD, toPD, PyData.eqv]; rfl
@[simp] theorem eqD_bl {i j : Bool} : eqD (.bl i) (.bl j) = decide (i = j) := by cases i <;> cases j <;> simp [eqD, toPD, PyData.eqv]
@[simp] theorem eqD_tup {a b : List D} : eqD (.tup a) (.tup b) = eqDs a b := by simp [eqD, toPD, PyData.eqv, eqDs]
@[simp] theorem eqDs_nil : eqDs [] [] = true := by simp [eqDs, toPDs, PyData.eqvAll]
@[simp] theorem eqDs_cons {a b : D} {as bs : List D} : eqDs (a :: as) (b :: bs) = (eqD a b && eqDs as bs) := by simp [eqDs, eqD, toPDs, PyData.eqvAll]
@[simp] theorem eqDs_nc {b : D} {bs : List D} : eqDs [] (b :: bs) = false := by simp [eqDs, toPDs, PyData.eqvAll]
@[simp] theorem eqDs_cn {b : D} {bs : List D} : eqDs (b :: bs) [] = false := by simp [eqDs, toPDs, PyData.eqvAll]
@[simp] theorem eqD_int_str {i : Int} {j : Str} : eqD (.int i) (.str j) = false := by simp [eqD, toPD, PyData.eqv]
@[simp] theorem eqD_str_int {i : Int} {j : Str} : eqD (.str j) (.int i) = false := by simp [eqD, toPD, PyData.eqv]
@[simp] theorem eqD_int_tup {i : Int} {j : List D} : eqD (.int i) (.tup j) = false := by simp [eqD, toPD, PyData.eqv]
@[simp] theorem eqD_tup_int {i : Int} {j : List D} : eqD (.tup j) (.int i) = false := by simp [eqD, toPD, PyData.eqv]
@[simp] theorem eqD_bl_tup {i : Bool} {j : List D} : eqD (.bl i) (.tup j) = false := by cases i <;> simp [eqD, toPD, PyData.eqv]
@[simp] theorem eqD_tup_bl {i : Bool} {j : List D} : eqD (.tup j) (.bl i) = false := by cases i <;> simp [eqD, toPD, PyData.eqv]
theorem lseq_ok {n : Nat} {a : D} (ha : okN n a = true) : (R.v a).lseq S = none := by
  cases a with
  | ob h => cases n <;> cases ha
  | _ => rfl
theorem pd_v {a : D} (ha : okN 60 a = true) : (R.v a).pd S = some (toPD a) := by
  unfold R.pd
  rw [lseq_ok ha]
  simp [ha]
theorem gEqV {a b : D} (ha : okN 60 a = true) (hb : okN 60 b = true) : gEq S (.v a) (.v b) = some (.v (.bl (eqD a b))) := by
  unfold gEq
  rw [pd_v ha, pd_v hb]
  rfl
theorem gNeV {a b : D} (ha : okN 60 a = true) (hb : okN 60 b = true) : gNe S (.v a) (.v b) = some (.v (.bl (!eqD a b))) := by
  unfold gNe
  rw [pd_v ha, pd_v hb]
  rfl
@[simp] theorem gEqI {i j : Int} : gEq S (.v (.int i)) (.v (.int j)) = some (.v (.bl (decide (i = j)))) := by
  rw [gEqV rfl rfl, eqD_int]
@[simp] theorem gNeI {i j : Int} : gNe S (.v (.int i)) (.v (.int j)) = some (.v (.bl (!decide (i = j)))) := by
  rw [gNeV rfl rfl, eqD_int]
/-! ### items -/
@[simp] theorem gIx_tup {xs : List D} {i : Int} : gIx S (.v (.tup xs)) (.v (.int i)) = (atI xs i).map .v := rfl
@[simp] theorem gIx_b {xs : List D} {i : Int} : gIx S (.b xs) (.v (.int i)) = (atI xs i).map .v := rfl
@[simp] theorem gIx_l {xs : List D} {i : Int} : gIx S (.l xs) (.v (.int i)) = (atI xs i).map .v := rfl
theorem gIx_ob {xs : List D} {i : Int} {h : Nat} (e : S[h]? = some (.lst xs)) : gIx S (.v (.ob h)) (.v (.int i)) = (atI xs i).map .v := by
  simp [gIx, R.dicR, R.seq, e]
@[simp] theorem gIx_0 {xs : List D} {i : Int} : gIx (.lst xs :: S) (.v (.ob 0)) (.v (.int i)) = (atI xs i).map .v := gIx_ob rfl
theorem ixN_nat {n m : Nat} : ixN n (m : Int) = if m < n then some m else none := by
  unfold ixN
  have h : (0 : Int) ≤ (m : Int) := Int.natCast_nonneg m
  rw [if_pos h]
  by_cases h2 : m < n
  · rw [if_pos (by omega), if_pos h2]; simp
  · rw [if_neg (by omega), if_neg h2]
theorem atI_nat {α : Type} {xs : List α} {m : Nat} : atI xs (m : Int) = xs[m]? := by
  unfold atI
  rw [ixN_nat]
  by_cases h : m < xs.length
  · rw [if_pos h]; rfl
  · rw [if_neg h]; simp at h; simp [h]
@[simp] theorem atI_0 {α : Type} {xs : List α} : atI xs 0 = xs[0]? := atI_nat (m := 0)
@[simp] theorem atI_1 {α : Type} {xs : List α} : atI xs 1 = xs[1]? := atI_nat (m := 1)
@[simp] theorem atI_2 {α : Type} {xs : List α} : atI xs 2 = xs[2]? := atI_nat (m := 2)
@[simp] theorem atI_3 {α : Type} {xs : List α} : atI xs 3 = xs[3]? := atI_nat (m := 3)
@[simp] theorem atI_4 {α : Type} {xs : List α} : atI xs 4 = xs[4]? := atI_nat (m := 4)
@[simp] theorem ixN_0 {n : Nat} : ixN n 0 = if 0 < n then some 0 else none := ixN_nat (m := 0)
@[simp] theorem ixN_1 {n : Nat} : ixN n 1 = if 1 < n then some 1 else none := ixN_nat (m := 1)
@[simp] theorem ixN_2 {n : Nat} : ixN n 2 = if 2 < n then some 2 else none := ixN_nat (m := 2)
/-! ### arguments, built-ins -/
@[simp] theorem eArgs_n : eArgs [] ρ S = some ([], S) := rfl
@[simp] theorem eArgs_c {f : E} {fs : List E} : eArgs (f :: fs) ρ S = bnd (f ρ S) fun x S1 => bnd (eArgs fs ρ S1) fun xs S2 => some (x :: xs, S2) := rfl
@[simp] theorem eBlt_ {g : Store → List R → Option R} {fs : List E} : eBlt g fs ρ S = bnd (eArgs fs ρ S) fun xs S1 => (g S1 xs).map fun z => (z, S1) := rfl
@[simp] theorem eCall_ {run : Ru} {fs : List E} : eCall run [] fs ρ S = bnd (eArgs fs ρ S) fun rs S1 => run rs S1 := by
  unfold eCall; simp
@[simp] theorem eTup_ {fs : List E} : eTup fs ρ S = bnd (eArgs fs ρ S) fun rs S1 => (flats rs).bind fun ds => if ds.length ≤ cap then some (.v (.tup ds), S1) else none := rfl
@[simp] theorem eLst_ {fs : List E} : eLst fs ρ S = bnd (eArgs fs ρ S) fun rs S1 => (flats rs).bind fun ds => if ds.length ≤ cap then some (.l ds, S1) else none := rfl
@[simp] theorem flats_n : flats [] = some [] := rfl
@[simp] theorem flats_v {d : D} {rs : List R} : flats (.v d :: rs) = (flats rs).map fun ds => d :: ds := rfl
@[simp] theorem gLen_0 {xs : List D} : gLen (.lst xs :: S) [.v (.ob 0)] = some (.v (.int xs.length)) := rfl
@[simp] theorem gLen_b {xs : List D} : gLen S [.b xs] = some (.v (.int xs.length)) := rfl
@[simp] theorem gLen_l {xs : List D} : gLen S [.l xs] = some (.v (.int xs.length)) := rfl
@[simp] theorem gLen_t {xs : List D} : gLen S [.v (.tup xs)] = some (.v (.int xs.length)) := rfl
@[simp] theorem ePick_ {fs : List E} {fb : E} : ePick fs fb ρ S = bnd (eArgs fs ρ S) fun rs S1 => bnd (fb ρ S1) fun y S2 => y.int.bind fun i => if rs.length ≤ cap then (atI rs i).map fun r => (r, S2) else none := rfl
/-! ### statements -/
def thenS (o : Option Out) (g : Sx) : Option Out := match o with
  | some (.next ρ1 S1) => g ρ1 S1
  | o => o
@[simp] theorem thenS_x {g : Sx} : thenS (some (.next ρ S)) g = g ρ S := rfl
@[simp] theorem thenS_r {g : Sx} {r : R} : thenS (some (.ret r S)) g = some (.ret r S) := rfl
@[simp] theorem thenS_b {g : Sx} : thenS (some (.brk ρ S)) g = some (.brk ρ S) := rfl
@[simp] theorem thenS_c {g : Sx} : thenS (some (.cont ρ S)) g = some (.cont ρ S) := rfl
@[simp] theorem thenS_n {g : Sx} : thenS none g = none := rfl
@[simp] theorem thenS_ite {c : Prop} [Decidable c] {a b : Option Out} {g : Sx} : thenS (if c then a else b) g = if c then thenS a g else thenS b g := by split <;> rfl
@[simp] theorem sSeq_ {f g : Sx} : sSeq f g ρ S = thenS (f ρ S) g := by
  unfold sSeq thenS
  cases f ρ S with
  | none => rfl
  | some o => cases o <;> rfl
@[simp] theorem sNil_ : sNil ρ S = some (.next ρ S) := rfl
@[simp] theorem sFail_ : sFail ρ S = none := rfl
@[simp] theorem sIf_ {ft : E} {fa fb : Sx} : sIf ft fa fb ρ S = bnd (ft ρ S) fun x S1 => iteB x.bool (fa ρ S1) (fb ρ S1) := by
  unfold sIf iteB; rfl
@[simp] theorem sExpr_ {fe : E} : sExpr fe ρ S = bnd (fe ρ S) fun _ S1 => some (.next ρ S1) := rfl
@[simp] theorem sRet_ {fe : E} : sRet fe ρ S = bnd (fe ρ S) fun x S1 => if x.may then some (.ret x S1) else none := rfl
@[simp] theorem may_v {d : D} : (R.v d).may = true := rfl
@[simp] theorem may_l {d : List D} : (R.l d).may = true := rfl
@[simp] theorem sRetN_ : sRetN ρ S = some (.ret (.v .non) S) := rfl
@[simp] theorem sRetVar_ {i : Nat} : sRetVar i ρ S = (ρ[i]?.bind Sl.out).map fun r => .ret r S := rfl
@[simp] theorem slout_v {d : D} : Sl.out (.v d) = some (.v d) := rfl
@[simp] theorem slout_l {d : List D} : Sl.out (.l d) = some (.l d) := rfl
@[simp] theorem sAsg_ {i : Nat} {fe : E} : sAsg i fe ρ S = bnd (fe ρ S) fun x S1 => (slotOf x).map fun s => .next (ρ.set i s) S1 := rfl
@[simp] theorem slotOf_v {d : D} : slotOf (.v d) = some (.v d) := rfl
@[simp] theorem slotOf_l {d : List D} : slotOf (.l d) = some (.l d) := rfl
@[simp] theorem slotOf_d {k : DK} {d : List (D × D)} : slotOf (.d k d) = some (.d k d) := rfl
@[simp] theorem sSet_ {fo fi fv : E} : sSet fo fi fv ρ S = bnd (fv ρ S) fun z S1 => bnd (fo ρ S1) fun x S2 => bnd (fi ρ S2) fun y S3 => match x, y, z with
  | .v (.ob h), .v y, .v d => (match S3[h]? with
    | some o => (putOb o y d).map fun o' => .next ρ (S3.set h o')
    | none => none)
  | _, _, _ => none := rfl
@[simp] theorem putOb_l {xs : List D} {k : Int} {d : D} : putOb (.lst xs) (.int k) d = (ixN xs.length k).map fun j => .lst (xs.set j d) := rfl
@[simp] theorem slotsIn_n : slotsIn [] = some [] := rfl
@[simp] theorem slotsIn_c {r : R} {rs : List R} : slotsIn (r :: rs) = (slotIn r).bind fun s => (slotsIn rs).map fun ss => s :: ss := by
  rw [slotsIn]
  cases slotIn r <;> cases slotsIn rs <;> rfl
@[simp] theorem slotIn_v {d : D} : slotIn (.v d) = some (.v d) := rfl
@[simp] theorem slotIn_l {d : List D} : slotIn (.l d) = some (.b d) := rfl
@[simp] theorem slotIn_b {d : List D} : slotIn (.b d) = some (.b d) := rfl
@[simp] theorem slotIn_f {d : List D} : slotIn (.f d) = some (.f d) := rfl
@[simp] theorem endOf_r {r : R} : endOf (some (.ret r S)) = some (r, S) := rfl
@[simp] theorem endOf_x : endOf (some (.next ρ S)) = some (.v .non, S) := rfl
@[simp] theorem endOf_n : endOf none = none := rfl
@[simp] theorem endOf_ite {c : Prop} [Decidable c] {a b : Option Out} : endOf (if c then a else b) = if c then endOf a else endOf b := by split <;> rfl
theorem runOf_ {n : Nat} {ev : Sx} {rs : List R} {ss : List Sl} (h : slotsIn rs = some ss) (hl : ss.length ≤ n) : runOf n ev rs S = endOf (ev (ss ++ List.replicate (n - ss.length) .no) S) := by
  unfold runOf
  rw [h]
  simp [hl]
theorem cap_le {n : Nat} (h : n ≤ 16777216) : n ≤ cap := h
@[simp] theorem eLPop_0 {fi : E} {fo : E} : eLPop fo fi ρ S = bnd (fo ρ S) fun x S1 => bnd (fi ρ S1) fun y S2 => match x, y with
  | .v (.ob h), .v (.int k) => (match S2[h]?, S1[h]? with
    | some (.lst xs), some (.lst _) => if -(9223372036854775808) ≤ k ∧ k < 9223372036854775808 then (ixN xs.length k).bind fun m => (xs[m]?).map fun d => (.v d, S2.set h (.lst (xs.eraseIdx m))) else none
    | _, _ => none)
  | _, _ => none := rfl
end
end Ev

set_option Elab.async false
set_option linter.all false
set_option maxRecDepth 100000
set_option maxHeartbeats 4000000
/-! Running the combinators: more. -/
namespace Ev
open PySem L2
section
variable {ρ : Env} {S : Store}
@[simp] theorem seq_t {xs : List D} : (R.v (.tup xs)).seq S = some xs := rfl
@[simp] theorem seq_l {xs : List D} : (R.l xs).seq S = some xs := rfl
@[simp] theorem seq_b {xs : List D} : (R.b xs).seq S = some xs := rfl
@[simp] theorem lseq_l {xs : List D} : (R.l xs).lseq S = some xs := rfl
@[simp] theorem lseq_b {xs : List D} : (R.b xs).lseq S = some xs := rfl
@[simp] theorem gList_ {x : R} : gList S [x] = (x.seq S).map fun ys => .l ys := rfl
@[simp] theorem gTuple_ {x : R} : gTuple S [x] = (x.seq S).map fun ys => .v (.tup ys) := rfl
@[simp] theorem gMax2_ {i j : Int} : gMax2 S [.v (.int i), .v (.int j)] = some (.v (.int (max i j))) := by
  show some (R.v (.int (if j > i then j else i))) = _
  congr 3
  split <;> omega
@[simp] theorem gMin2_ {i j : Int} : gMin S [.v (.int i), .v (.int j)] = some (.v (.int (min i j))) := by
  show some (R.v (.int (if j < i then j else i))) = _
  congr 3
  split <;> omega
@[simp] theorem gInt_i {i : Int} : gInt S [.v (.int i)] = some (.v (.int i)) := rfl
@[simp] theorem gInt_b {b : Bool} : gInt S [.v (.bl b)] = some (.v (.int (if b then 1 else 0))) := rfl
@[simp] theorem gAbs_i {i : Int} : gAbs S [.v (.int i)] = some (.v (.int (if i < 0 then -i else i))) := rfl
@[simp] theorem gSorted_l {ns : List Int} : gSorted S [.l (ns.map D.int)] = some (.l ((sortI ns).map D.int)) := by simp [gSorted, R.nums, ints1_map]
@[simp] theorem gSorted_b {ns : List Int} : gSorted S [.b (ns.map D.int)] = some (.l ((sortI ns).map D.int)) := by simp [gSorted, R.nums, ints1_map]
@[simp] theorem gMin_b {ns : List Int} : gMin S [.b (ns.map D.int)] = if 0 < ns.length then some (.v (.int (minL ns))) else none := by simp [gMin, R.nums, ints1_map]
/-! slices -/
@[simp] theorem eSlice_ {fa : E} {lo hi : Option E} : eSlice fa lo hi ρ S = bnd (fa ρ S) fun x S1 => bnd (ePart lo ρ S1) fun l S2 => bnd (ePart hi ρ S2) fun u S3 => (gSl S3 x l u).map fun z => (z, S3) := rfl
@[simp] theorem ePart_n : ePart none ρ S = some (none, S) := rfl
@[simp] theorem ePart_s {f : E} : ePart (some f) ρ S = bnd (f ρ S) fun x S1 => x.int.map fun i => (some i, S1) := rfl
@[simp] theorem gSl_t {xs : List D} {lo hi : Option Int} : gSl S (.v (.tup xs)) lo hi = some (.v (.tup (cutD xs lo hi))) := rfl
@[simp] theorem gSl_l {xs : List D} {lo hi : Option Int} : gSl S (.l xs) lo hi = some (.l (cutD xs lo hi)) := rfl
@[simp] theorem gSl_b {xs : List D} {lo hi : Option Int} : gSl S (.b xs) lo hi = some (.l (cutD xs lo hi)) := rfl
theorem cut_take {xs : List D} {m : Nat} : cutD xs none (some (m : Int)) = xs.take m := by
  unfold cutD
  rw [HT.sIx_none, HT.sIx_nat, List.drop_zero, Nat.sub_zero]
  by_cases h : m ≤ xs.length
  · rw [Nat.min_eq_left h]
  · rw [Nat.min_eq_right (by omega), List.take_of_length_le (by omega), List.take_of_length_le (by omega)]
theorem cut_takeI {xs : List D} {k : Int} (h : 0 ≤ k) : cutD xs none (some k) = xs.take k.toNat := by
  have e : k = ((k.toNat : Nat) : Int) := by omega
  exact (congrArg (fun z => cutD xs none (some z)) e).trans cut_take
@[simp] theorem cut_1 {xs : List D} : cutD xs none (some 1) = xs.take 1 := cut_take (m := 1)
@[simp] theorem cut_2 {xs : List D} : cutD xs none (some 2) = xs.take 2 := cut_take (m := 2)
@[simp] theorem cut_3 {xs : List D} : cutD xs none (some 3) = xs.take 3 := cut_take (m := 3)
/-! more statements -/
@[simp] theorem sUnp_ {is : List Nat} {fe : E} : sUnp is fe ρ S = bnd (fe ρ S) fun x S1 => (unpack is x S1 ρ).map fun ρ1 => .next ρ1 S1 := rfl
@[simp] theorem unpack_t {is : List Nat} {ds : List D} : unpack is (.v (.tup ds)) S ρ = setAll is ds ρ := rfl
@[simp] theorem unpack_l {is : List Nat} {ds : List D} : unpack is (.l ds) S ρ = setAll is ds ρ := rfl
@[simp] theorem setAll_n : setAll [] [] ρ = some ρ := rfl
@[simp] theorem setAll_c {i : Nat} {is : List Nat} {d : D} {ds : List D} : setAll (i :: is) (d :: ds) ρ = setAll is ds (ρ.set i (.v d)) := rfl
def setV (o : Option Sl) (y d : R) : Option Sl := match o, y, d with
  | some s, .v y, .v d => putSl s y d
  | _, _, _ => none
@[simp] theorem setV_ {s : Sl} {y d : D} : setV (some s) (.v y) (.v d) = putSl s y d := rfl
@[simp] theorem sSetV_ {i : Nat} {fi fv : E} : sSetV i fi fv ρ S = bnd (fv ρ S) fun z S1 => bnd (fi ρ S1) fun y S2 => (setV ρ[i]? y z).map fun s' => .next (ρ.set i s') S2 := by
  unfold sSetV
  cases fv ρ S with
  | none => rfl
  | some p =>
    simp only [bnd]
    cases fi ρ p.2 with
    | none => rfl
    | some q =>
      simp only
      cases ρ[i]? with
      | none => simp [setV]
      | some s => cases q.1 <;> cases p.1 <;> simp [setV]
@[simp] theorem putSl_l {xs : List D} {k : Int} {d : D} : putSl (.l xs) (.int k) d = (ixN xs.length k).map fun j => .l (xs.set j d) := rfl
def appV (o : Option Sl) (d : R) : Option Sl := match o, d with
  | some (.l xs), .v d => if xs.length < cap then some (.l (xs ++ [d])) else none
  | _, _ => none
@[simp] theorem appV_ {xs : List D} {d : D} : appV (some (.l xs)) (.v d) = if xs.length < cap then some (.l (xs ++ [d])) else none := rfl
@[simp] theorem sAppV_ {i : Nat} {fe : E} : sAppV i fe ρ S = bnd (fe ρ S) fun y S1 => (appV ρ[i]? y).map fun s => .next (ρ.set i s) S1 := by
  unfold sAppV
  cases fe ρ S with
  | none => rfl
  | some p =>
    simp only [bnd]
    cases ρ[i]? with
    | none => simp [appV]
    | some s => cases s <;> cases p.1 <;> simp [appV] <;> split <;> rfl
@[simp] theorem sPar_ {i j : Nat} {fa fb : E} : sPar i j fa fb ρ S = bnd (fa ρ S) fun x S1 => bnd (fb ρ S1) fun y S2 => x.flat.bind fun a => y.flat.map fun b => .next ((ρ.set i (.v a)).set j (.v b)) S2 := by
  unfold sPar
  cases fa ρ S with
  | none => rfl
  | some p =>
    simp only [bnd]
    cases fb ρ p.2 with
    | none => rfl
    | some q => simp only; cases p.1 <;> cases q.1 <;> rfl
/-! walks -/
@[simp] theorem fSeq_ {fa : E} : fSeq fa ρ S = bnd (fa ρ S) fun x S1 => (x.seq S1).map fun xs => ((xs, x.src xs), S1) := rfl
@[simp] theorem src_t {xs ys : List D} : R.src xs (.v (.tup ys)) = (.no, true) := rfl
@[simp] theorem src_l {xs ys : List D} : R.src xs (.l ys) = (.no, true) := rfl
@[simp] theorem fRange_ {fa : E} : fRange fa ρ S = bnd (fa ρ S) fun x S1 => x.int.bind fun n => if smallN n then some ((rangeD n, .no, true), S1) else none := rfl
@[simp] theorem alive_no : Src.alive S .no = true := rfl
@[simp] theorem sFor_ {fi : Fi} {tg : Tg} {body : Sx} : sFor fi tg body ρ S = bnd (fi ρ S) fun p S1 => if p.2.2 then loopF tg body p.2.1 p.1 ρ S1 else none := rfl
@[simp] theorem sForV_ {i : Nat} {fi : Fi} {tg : Tg} {body : Sx} : sForV i fi tg body ρ S = sFor fi tg body (lend i ρ) S := rfl
@[simp] theorem eComp_ {fi : Fi} {tg : Tg} {vs : List Nat} {ft fe : E} : eComp fi tg vs ft fe ρ S = bnd (fi ρ S) fun p S1 => if p.1.length ≤ cap then bnd (compF tg ft fe p.2.1 (wipeE ρ vs) p.1 S1) fun ys S2 => some (.l ys, S2) else none := rfl
@[simp] theorem tgName_ {i : Nat} {d : D} : tgName i d ρ = some (ρ.set i (.v d)) := rfl
@[simp] theorem tgTup_ {is : List Nat} {ds : List D} : tgTup is (.tup ds) ρ = setAll is ds ρ := rfl
theorem fVar_b {i : Nat} {xs : List D} (h : ρ[i]? = some (.b xs)) : fVar i ρ S = some ((xs, .no, true), S) := by unfold fVar; rw [h]
theorem fVar_f {i : Nat} {xs : List D} (h : ρ[i]? = some (.f xs)) : fVar i ρ S = some ((xs, .no, true), S) := by unfold fVar; rw [h]
theorem fVar_l {i : Nat} {xs : List D} (h : ρ[i]? = some (.l xs)) : fVar i ρ S = some ((xs, .no, false), S) := by unfold fVar; rw [h]; simp [h, R.src]
theorem fVar_t {i : Nat} {xs : List D} (h : ρ[i]? = some (.v (.tup xs))) : fVar i ρ S = some ((xs, .no, true), S) := by unfold fVar; rw [h]; simp [h, R.src]
@[simp] theorem compF_n {tg : Tg} {ft fe : E} : compF tg ft fe .no ρ [] S = some ([], S) := rfl
theorem compF_c {tg : Tg} {ft fe : E} {d : D} {r : List D} : compF tg ft fe .no ρ (d :: r) S = (tg d ρ).bind fun ρ1 => bnd (ft ρ1 S) fun b S1 => iteB b.bool (bnd (fe ρ1 S1) fun x S2 => x.flat.bind fun y => bnd (compF tg ft fe .no ρ r S2) fun ys S3 => some (y :: ys, S3)) (compF tg ft fe .no ρ r S1) := by
  rw [compF]
  rw [if_pos alive_no]
  cases tg d ρ with
  | none => rfl
  | some ρ1 =>
    simp only [Option.bind_some]
    cases ft ρ1 S with
    | none => rfl
    | some p =>
      simp only [bnd]
      cases p.1.bool with
      | none => rfl
      | some b =>
        cases b with
        | false => rfl
        | true =>
          simp only [iteB]
          cases fe ρ1 p.2 with
          | none => rfl
          | some q => simp only; cases q.1.flat <;> rfl
/-- a comprehension that changes nothing -/
theorem comp_pure {α : Type} {tg : Tg} {ft fe : E} (c : α → D) (p : α → Bool) (g : α → D) : ∀ {xs : List α}, (∀ x ∈ xs, ∃ ρ1, tg (c x) ρ = some ρ1 ∧ ft ρ1 S = some (.v (.bl (p x)), S) ∧ (p x = true → fe ρ1 S = some (.v (g x), S))) →
    compF tg ft fe .no ρ (xs.map c) S = some ((xs.filter p).map g, S)
  | [], _ => rfl
  | x :: xs, h => by
    obtain ⟨ρ1, h1, h2, h3⟩ := h x (by simp)
    have ih := comp_pure c p g (xs := xs) fun y hy => h y (by simp [hy])
    rw [List.map_cons, compF_c, h1]
    simp only [Option.bind_some, h2, bnd_s, R.bool_bl, iteB_s]
    cases q : p x with
    | false => simp [q, ih]
    | true => simp [q, ih, h3 q]
theorem comp_map {α : Type} {tg : Tg} {fe : E} (c : α → D) (g : α → D) {xs : List α} (h : ∀ x ∈ xs, ∃ ρ1, tg (c x) ρ = some ρ1 ∧ fe ρ1 S = some (.v (g x), S)) :
    compF tg eTrue fe .no ρ (xs.map c) S = some (xs.map g, S) := by
  rw [comp_pure c (fun _ => true) g fun x hx => by
    obtain ⟨ρ1, h1, h2⟩ := h x hx
    exact ⟨ρ1, h1, rfl, fun _ => h2⟩]
  rw [List.filter_eq_self.mpr (fun _ _ => rfl)]
def stepL (tg : Tg) (body : Sx) (r : List D) (o : Option Out) : Option Out := match o with
  | some (.next ρ2 S2) => loopF tg body .no r ρ2 S2
  | some (.cont ρ2 S2) => loopF tg body .no r ρ2 S2
  | some (.brk ρ2 S2) => some (.next ρ2 S2)
  | some (.ret x S2) => some (.ret x S2)
  | none => none
@[simp] theorem stepL_x {tg : Tg} {body : Sx} {r : List D} : stepL tg body r (some (.next ρ S)) = loopF tg body .no r ρ S := rfl
@[simp] theorem stepL_r {tg : Tg} {body : Sx} {r : List D} {x : R} : stepL tg body r (some (.ret x S)) = some (.ret x S) := rfl
@[simp] theorem loopF_n {tg : Tg} {body : Sx} : loopF tg body .no [] ρ S = some (.next ρ S) := rfl
theorem loopF_c {tg : Tg} {body : Sx} {d : D} {r : List D} : loopF tg body .no (d :: r) ρ S = (tg d ρ).bind fun ρ1 => stepL tg body r (body ρ1 S) := by
  rw [loopF, if_pos alive_no]
  cases tg d ρ with
  | none => rfl
  | some ρ1 =>
    simp only [Option.bind_some]
    cases body ρ1 S with
    | none => rfl
    | some o => cases o <;> rfl
def stepW (ft : E) (body : Sx) (m : Nat) (o : Option Out) : Option Out := match o with
  | some (.next ρ2 S2) => whileF ft body m ρ2 S2
  | some (.cont ρ2 S2) => whileF ft body m ρ2 S2
  | some (.brk ρ2 S2) => some (.next ρ2 S2)
  | some (.ret x S2) => some (.ret x S2)
  | none => none
@[simp] theorem stepW_x {ft : E} {body : Sx} {m : Nat} : stepW ft body m (some (.next ρ S)) = whileF ft body m ρ S := rfl
theorem whileF_s {ft : E} {body : Sx} {m : Nat} : whileF ft body (m + 1) ρ S = bnd (ft ρ S) fun x S1 => iteB x.bool (stepW ft body m (body ρ S1)) (some (.next ρ S1)) := by
  rw [whileF]
  cases ft ρ S with
  | none => rfl
  | some p =>
    simp only [bnd]
    cases p.1.bool with
    | none => rfl
    | some b =>
      cases b with
      | false => rfl
      | true =>
        simp only [iteB]
        cases body ρ p.2 with
        | none => rfl
        | some o => cases o <;> rfl
/-! lists compared -/
theorem pd_b {xs : List D} (h : okNs 60 xs = true) : (R.b xs).pd S = some (.list (toPDs xs)) := by
  show (if okNs 60 xs = true then _ else _) = _
  rw [if_pos h]
theorem pd_l {xs : List D} (h : okNs 60 xs = true) : (R.l xs).pd S = some (.list (toPDs xs)) := by
  show (if okNs 60 xs = true then _ else _) = _
  rw [if_pos h]
theorem gNe_bl {xs ys : List D} (h : okNs 60 xs = true) (h' : okNs 60 ys = true) : gNe S (.b xs) (.l ys) = some (.v (.bl (!eqDs xs ys))) := by
  unfold gNe
  rw [pd_b h, pd_l h']
  simp [PyData.eqv, eqDs]
theorem gNe_bb {xs ys : List D} (h : okNs 60 xs = true) (h' : okNs 60 ys = true) : gNe S (.b xs) (.b ys) = some (.v (.bl (!eqDs xs ys))) := by
  unfold gNe
  rw [pd_b h, pd_b h']
  simp [PyData.eqv, eqDs]
theorem gNe_ll {xs ys : List D} (h : okNs 60 xs = true) (h' : okNs 60 ys = true) : gNe S (.l xs) (.l ys) = some (.v (.bl (!eqDs xs ys))) := by
  unfold gNe
  rw [pd_l h, pd_l h']
  simp [PyData.eqv, eqDs]
theorem gEq_ll {xs ys : List D} (h : okNs 60 xs = true) (h' : okNs 60 ys = true) : gEq S (.l xs) (.l ys) = some (.v (.bl (eqDs xs ys))) := by
  unfold gEq
  rw [pd_l h, pd_l h']
  simp [PyData.eqv, eqDs]
theorem gEq_bl {xs ys : List D} (h : okNs 60 xs = true) (h' : okNs 60 ys = true) : gEq S (.b xs) (.l ys) = some (.v (.bl (eqDs xs ys))) := by
  unfold gEq
  rw [pd_b h, pd_l h']
  simp [PyData.eqv, eqDs]
theorem okNs_ints {n : Nat} : ∀ ns : List Int, okNs n (ns.map D.int) = true
  | [] => by simp [okNs]
  | i :: ns => by simp [okNs, okN, okNs_ints ns]
theorem eqDs_nil_r {xs : List D} : eqDs xs [] = xs.isEmpty := by cases xs <;> simp
theorem eqDs_ints : ∀ {a b : List Int}, eqDs (a.map D.int) (b.map D.int) = decide (a = b)
  | [], [] => by simp
  | [], _ :: _ => by simp
  | _ :: _, [] => by simp
  | x :: a, y :: b => by
    simp only [List.map_cons, eqDs_cons, eqD_int, eqDs_ints (a := a) (b := b), List.cons.injEq]
    by_cases h : x = y <;> by_cases h2 : a = b <;> simp [h, h2]
/-! kinds -/
@[simp] theorem eIsi_ {t : Ty} {fa : E} : eIsi t fa ρ S = bnd (fa ρ S) fun x S1 => (x.kd S1).map fun k => (.v (.bl (isTy k t)), S1) := rfl
@[simp] theorem kd_non : (R.v .non).kd S = some .non := rfl
@[simp] theorem kd_bl {b : Bool} : (R.v (.bl b)).kd S = some .bool := rfl
@[simp] theorem kd_int {i : Int} : (R.v (.int i)).kd S = some .int := rfl
@[simp] theorem kd_str {i : Str} : (R.v (.str i)).kd S = some .str := rfl
@[simp] theorem kd_tup {i : List D} : (R.v (.tup i)).kd S = some .tuple := rfl
@[simp] theorem kd_l {i : List D} : (R.l i).kd S = some .list := rfl
@[simp] theorem kd_b {i : List D} : (R.b i).kd S = some .list := rfl
/-! chains -/
@[simp] theorem eChain_ {g g' : Store → R → R → Option R} {fa fb fc : E} : eChain g g' fa fb fc ρ S = bnd (fa ρ S) fun x S1 => bnd (fb ρ S1) fun y S2 => (g S2 x y).bind fun z => iteB z.bool (bnd (fc ρ S2) fun w S3 => (g' S3 y w).map fun z => (z, S3)) (some (.v (.bl false), S2)) := by
  unfold eChain
  cases fa ρ S with
  | none => rfl
  | some p =>
    simp only [bnd]
    cases fb ρ p.2 with
    | none => rfl
    | some q =>
      simp only
      cases g q.2 p.1 q.1 with
      | none => rfl
      | some z =>
        simp only [Option.bind_some]
        cases z.bool with
        | none => rfl
        | some b => cases b <;> rfl
end
end Ev

set_option Elab.async false
set_option linter.all false
set_option maxRecDepth 100000
set_option maxHeartbeats 4000000
/-! Words. -/
namespace Ev
open PySem L2
@[simp] theorem so_look : PyData.strOk (Str.ofString "look") = true := by decide +kernel
@[simp] theorem so_put : PyData.strOk (Str.ofString "put") = true := by decide +kernel
@[simp] theorem so_add : PyData.strOk (Str.ofString "add") = true := by decide +kernel
@[simp] theorem so_move : PyData.strOk (Str.ofString "move") = true := by decide +kernel
@[simp] theorem so_draft : PyData.strOk (Str.ofString "draft") = true := by decide +kernel
@[simp] theorem so_wait : PyData.strOk (Str.ofString "wait") = true := by decide +kernel
@[simp] theorem so_save : PyData.strOk (Str.ofString "save") = true := by decide +kernel
@[simp] theorem so_house : PyData.strOk (Str.ofString "house") = true := by decide +kernel
@[simp] theorem so_user : PyData.strOk (Str.ofString "user") = true := by decide +kernel
@[simp] theorem so_seen : PyData.strOk (Str.ofString "seen") = true := by decide +kernel
@[simp] theorem so_done : PyData.strOk (Str.ofString "done") = true := by decide +kernel
@[simp] theorem so_back : PyData.strOk (Str.ofString "back") = true := by decide +kernel
@[simp] theorem so_given : PyData.strOk (Str.ofString "given") = true := by decide +kernel
@[simp] theorem so_writes : PyData.strOk (Str.ofString "writes") = true := by decide +kernel
@[simp] theorem so_users : PyData.strOk (Str.ofString "users") = true := by decide +kernel
@[simp] theorem so_down : PyData.strOk (Str.ofString "down") = true := by decide +kernel
@[simp] theorem so_away : PyData.strOk (Str.ofString "away") = true := by decide +kernel
@[simp] theorem so_post : PyData.strOk (Str.ofString "post") = true := by decide +kernel
@[simp] theorem so_first : PyData.strOk (Str.ofString "first") = true := by decide +kernel
@[simp] theorem so_rows : PyData.strOk (Str.ofString "rows") = true := by decide +kernel
@[simp] theorem so_open : PyData.strOk (Str.ofString "open") = true := by decide +kernel
@[simp] theorem so_time : PyData.strOk (Str.ofString "time") = true := by decide +kernel
@[simp] theorem so_turns : PyData.strOk (Str.ofString "turns") = true := by decide +kernel
@[simp] theorem so_notes : PyData.strOk (Str.ofString "notes") = true := by decide +kernel
@[simp] theorem so_lives : PyData.strOk (Str.ofString "lives") = true := by decide +kernel
@[simp] theorem so_all : PyData.strOk (Str.ofString "all") = true := by decide +kernel
@[simp] theorem so_note : PyData.strOk (Str.ofString "note") = true := by decide +kernel
@[simp] theorem sn_look_put : (Str.ofString "look" = Str.ofString "put") = False := eq_false (by decide +kernel)
@[simp] theorem sn_look_add : (Str.ofString "look" = Str.ofString "add") = False := eq_false (by decide +kernel)
@[simp] theorem sn_look_move : (Str.ofString "look" = Str.ofString "move") = False := eq_false (by decide +kernel)
@[simp] theorem sn_look_draft : (Str.ofString "look" = Str.ofString "draft") = False := eq_false (by decide +kernel)
@[simp] theorem sn_look_wait : (Str.ofString "look" = Str.ofString "wait") = False := eq_false (by decide +kernel)
@[simp] theorem sn_look_save : (Str.ofString "look" = Str.ofString "save") = False := eq_false (by decide +kernel)
@[simp] theorem sn_look_house : (Str.ofString "look" = Str.ofString "house") = False := eq_false (by decide +kernel)
@[simp] theorem sn_look_user : (Str.ofString "look" = Str.ofString "user") = False := eq_false (by decide +kernel)
@[simp] theorem sn_look_seen : (Str.ofString "look" = Str.ofString "seen") = False := eq_false (by decide +kernel)
@[simp] theorem sn_look_done : (Str.ofString "look" = Str.ofString "done") = False := eq_false (by decide +kernel)
@[simp] theorem sn_look_back : (Str.ofString "look" = Str.ofString "back") = False := eq_false (by decide +kernel)
@[simp] theorem sn_look_given : (Str.ofString "look" = Str.ofString "given") = False := eq_false (by decide +kernel)
@[simp] theorem sn_look_writes : (Str.ofString "look" = Str.ofString "writes") = False := eq_false (by decide +kernel)
@[simp] theorem sn_look_users : (Str.ofString "look" = Str.ofString "users") = False := eq_false (by decide +kernel)
@[simp] theorem sn_look_down : (Str.ofString "look" = Str.ofString "down") = False := eq_false (by decide +kernel)
@[simp] theorem sn_look_away : (Str.ofString "look" = Str.ofString "away") = False := eq_false (by decide +kernel)
@[simp] theorem sn_look_post : (Str.ofString "look" = Str.ofString "post") = False := eq_false (by decide +kernel)
@[simp] theorem sn_look_first : (Str.ofString "look" = Str.ofString "first") = False := eq_false (by decide +kernel)
@[simp] theorem sn_look_rows : (Str.ofString "look" = Str.ofString "rows") = False := eq_false (by decide +kernel)
@[simp] theorem sn_look_open : (Str.ofString "look" = Str.ofString "open") = False := eq_false (by decide +kernel)
@[simp] theorem sn_look_time : (Str.ofString "look" = Str.ofString "time") = False := eq_false (by decide +kernel)
@[simp] theorem sn_look_turns : (Str.ofString "look" = Str.ofString "turns") = False := eq_false (by decide +kernel)
@[simp] theorem sn_look_notes : (Str.ofString "look" = Str.ofString "notes") = False := eq_false (by decide +kernel)
@[simp] theorem sn_look_lives : (Str.ofString "look" = Str.ofString "lives") = False := eq_false (by decide +kernel)
@[simp] theorem sn_look_all : (Str.ofString "look" = Str.ofString "all") = False := eq_false (by decide +kernel)
@[simp] theorem sn_look_note : (Str.ofString "look" = Str.ofString "note") = False := eq_false (by decide +kernel)
@[simp] theorem sn_put_look : (Str.ofString "put" = Str.ofString "look") = False := eq_false (by decide +kernel)
@[simp] theorem sn_put_add : (Str.ofString "put" = Str.ofString "add") = False := eq_false (by decide +kernel)
@[simp] theorem sn_put_move : (Str.ofString "put" = Str.ofString "move") = False := eq_false (by decide +kernel)
@[simp] theorem sn_put_draft : (Str.ofString "put" = Str.ofString "draft") = False := eq_false (by decide +kernel)
@[simp] theorem sn_put_wait : (Str.ofString "put" = Str.ofString "wait") = False := eq_false (by decide +kernel)
@[simp] theorem sn_put_save : (Str.ofString "put" = Str.ofString "save") = False := eq_false (by decide +kernel)
@[simp] theorem sn_put_house : (Str.ofString "put" = Str.ofString "house") = False := eq_false (by decide +kernel)
@[simp] theorem sn_put_user : (Str.ofString "put" = Str.ofString "user") = False := eq_false (by decide +kernel)
@[simp] theorem sn_put_seen : (Str.ofString "put" = Str.ofString "seen") = False := eq_false (by decide +kernel)
@[simp] theorem sn_put_done : (Str.ofString "put" = Str.ofString "done") = False := eq_false (by decide +kernel)
@[simp] theorem sn_put_back : (Str.ofString "put" = Str.ofString "back") = False := eq_false (by decide +kernel)
@[simp] theorem sn_put_given : (Str.ofString "put" = Str.ofString "given") = False := eq_false (by decide +kernel)
@[simp] theorem sn_put_writes : (Str.ofString "put" = Str.ofString "writes") = False := eq_false (by decide +kernel)
@[simp] theorem sn_put_users : (Str.ofString "put" = Str.ofString "users") = False := eq_false (by decide +kernel)
@[simp] theorem sn_put_down : (Str.ofString "put" = Str.ofString "down") = False := eq_false (by decide +kernel)
@[simp] theorem sn_put_away : (Str.ofString "put" = Str.ofString "away") = False := eq_false (by decide +kernel)
@[simp] theorem sn_put_post : (Str.ofString "put" = Str.ofString "post") = False := eq_false (by decide +kernel)
@[simp] theorem sn_put_first : (Str.ofString "put" = Str.ofString "first") = False := eq_false (by decide +kernel)
@[simp] theorem sn_put_rows : (Str.ofString "put" = Str.ofString "rows") = False := eq_false (by decide +kernel)
@[simp] theorem sn_put_open : (Str.ofString "put" = Str.ofString "open") = False := eq_false (by decide +kernel)
@[simp] theorem sn_put_time : (Str.ofString "put" = Str.ofString "time") = False := eq_false (by decide +kernel)
@[simp] theorem sn_put_turns : (Str.ofString "put" = Str.ofString "turns") = False := eq_false (by decide +kernel)
@[simp] theorem sn_put_notes : (Str.ofString "put" = Str.ofString "notes") = False := eq_false (by decide +kernel)
@[simp] theorem sn_put_lives : (Str.ofString "put" = Str.ofString "lives") = False := eq_false (by decide +kernel)
@[simp] theorem sn_put_all : (Str.ofString "put" = Str.ofString "all") = False := eq_false (by decide +kernel)
@[simp] theorem sn_put_note : (Str.ofString "put" = Str.ofString "note") = False := eq_false (by decide +kernel)
@[simp] theorem sn_add_look : (Str.ofString "add" = Str.ofString "look") = False := eq_false (by decide +kernel)
@[simp] theorem sn_add_put : (Str.ofString "add" = Str.ofString "put") = False := eq_false (by decide +kernel)
@[simp] theorem sn_add_move : (Str.ofString "add" = Str.ofString "move") = False := eq_false (by decide +kernel)
@[simp] theorem sn_add_draft : (Str.ofString "add" = Str.ofString "draft") = False := eq_false (by decide +kernel)
@[simp] theorem sn_add_wait : (Str.ofString "add" = Str.ofString "wait") = False := eq_false (by decide +kernel)
@[simp] theorem sn_add_save : (Str.ofString "add" = Str.ofString "save") = False := eq_false (by decide +kernel)
@[simp] theorem sn_add_house : (Str.ofString "add" = Str.ofString "house") = False := eq_false (by decide +kernel)
@[simp] theorem sn_add_user : (Str.ofString "add" = Str.ofString "user") = False := eq_false (by decide +kernel)
@[simp] theorem sn_add_seen : (Str.ofString "add" = Str.ofString "seen") = False := eq_false (by decide +kernel)
@[simp] theorem sn_add_done : (Str.ofString "add" = Str.ofString "done") = False := eq_false (by decide +kernel)
@[simp] theorem sn_add_back : (Str.ofString "add" = Str.ofString "back") = False := eq_false (by decide +kernel)
@[simp] theorem sn_add_given : (Str.ofString "add" = Str.ofString "given") = False := eq_false (by decide +kernel)
@[simp] theorem sn_add_writes : (Str.ofString "add" = Str.ofString "writes") = False := eq_false (by decide +kernel)
@[simp] theorem sn_add_users : (Str.ofString "add" = Str.ofString "users") = False := eq_false (by decide +kernel)
@[simp] theorem sn_add_down : (Str.ofString "add" = Str.ofString "down") = False := eq_false (by decide +kernel)
@[simp] theorem sn_add_away : (Str.ofString "add" = Str.ofString "away") = False := eq_false (by decide +kernel)
@[simp] theorem sn_add_post : (Str.ofString "add" = Str.ofString "post") = False := eq_false (by decide +kernel)
@[simp] theorem sn_add_first : (Str.ofString "add" = Str.ofString "first") = False := eq_false (by decide +kernel)
@[simp] theorem sn_add_rows : (Str.ofString "add" = Str.ofString "rows") = False := eq_false (by decide +kernel)
@[simp] theorem sn_add_open : (Str.ofString "add" = Str.ofString "open") = False := eq_false (by decide +kernel)
@[simp] theorem sn_add_time : (Str.ofString "add" = Str.ofString "time") = False := eq_false (by decide +kernel)
@[simp] theorem sn_add_turns : (Str.ofString "add" = Str.ofString "turns") = False := eq_false (by decide +kernel)
@[simp] theorem sn_add_notes : (Str.ofString "add" = Str.ofString "notes") = False := eq_false (by decide +kernel)
@[simp] theorem sn_add_lives : (Str.ofString "add" = Str.ofString "lives") = False := eq_false (by decide +kernel)
@[simp] theorem sn_add_all : (Str.ofString "add" = Str.ofString "all") = False := eq_false (by decide +kernel)
@[simp] theorem sn_add_note : (Str.ofString "add" = Str.ofString "note") = False := eq_false (by decide +kernel)
@[simp] theorem sn_move_look : (Str.ofString "move" = Str.ofString "look") = False := eq_false (by decide +kernel)
@[simp] theorem sn_move_put : (Str.ofString "move" = Str.ofString "put") = False := eq_false (by decide +kernel)
@[simp] theorem sn_move_add : (Str.ofString "move" = Str.ofString "add") = False := eq_false (by decide +kernel)
@[simp] theorem sn_move_draft : (Str.ofString "move" = Str.ofString "draft") = False := eq_false (by decide +kernel)
@[simp] theorem sn_move_wait : (Str.ofString "move" = Str.ofString "wait") = False := eq_false (by decide +kernel)
@[simp] theorem sn_move_save : (Str.ofString "move" = Str.ofString "save") = False := eq_false (by decide +kernel)
@[simp] theorem sn_move_house : (Str.ofString "move" = Str.ofString "house") = False := eq_false (by decide +kernel)
@[simp] theorem sn_move_user : (Str.ofString "move" = Str.ofString "user") = False := eq_false (by decide +kernel)
@[simp] theorem sn_move_seen : (Str.ofString "move" = Str.ofString "seen") = False := eq_false (by decide +kernel)
@[simp] theorem sn_move_done : (Str.ofString "move" = Str.ofString "done") = False := eq_false (by decide +kernel)
@[simp] theorem sn_move_back : (Str.ofString "move" = Str.ofString "back") = False := eq_false (by decide +kernel)
@[simp] theorem sn_move_given : (Str.ofString "move" = Str.ofString "given") = False := eq_false (by decide +kernel)
@[simp] theorem sn_move_writes : (Str.ofString "move" = Str.ofString "writes") = False := eq_false (by decide +kernel)
@[simp] theorem sn_move_users : (Str.ofString "move" = Str.ofString "users") = False := eq_false (by decide +kernel)
@[simp] theorem sn_move_down : (Str.ofString "move" = Str.ofString "down") = False := eq_false (by decide +kernel)
@[simp] theorem sn_move_away : (Str.ofString "move" = Str.ofString "away") = False := eq_false (by decide +kernel)
@[simp] theorem sn_move_post : (Str.ofString "move" = Str.ofString "post") = False := eq_false (by decide +kernel)
@[simp] theorem sn_move_first : (Str.ofString "move" = Str.ofString "first") = False := eq_false (by decide +kernel)
@[simp] theorem sn_move_rows : (Str.ofString "move" = Str.ofString "rows") = False := eq_false (by decide +kernel)
@[simp] theorem sn_move_open : (Str.ofString "move" = Str.ofString "open") = False := eq_false (by decide +kernel)
@[simp] theorem sn_move_time : (Str.ofString "move" = Str.ofString "time") = False := eq_false (by decide +kernel)
@[simp] theorem sn_move_turns : (Str.ofString "move" = Str.ofString "turns") = False := eq_false (by decide +kernel)
@[simp] theorem sn_move_notes : (Str.ofString "move" = Str.ofString "notes") = False := eq_false (by decide +kernel)
@[simp] theorem sn_move_lives : (Str.ofString "move" = Str.ofString "lives") = False := eq_false (by decide +kernel)
@[simp] theorem sn_move_all : (Str.ofString "move" = Str.ofString "all") = False := eq_false (by decide +kernel)
@[simp] theorem sn_move_note : (Str.ofString "move" = Str.ofString "note") = False := eq_false (by decide +kernel)
@[simp] theorem sn_draft_look : (Str.ofString "draft" = Str.ofString "look") = False := eq_false (by decide +kernel)
@[simp] theorem sn_draft_put : (Str.ofString "draft" = Str.ofString "put") = False := eq_false (by decide +kernel)
@[simp] theorem sn_draft_add : (Str.ofString "draft" = Str.ofString "add") = False := eq_false (by decide +kernel)
@[simp] theorem sn_draft_move : (Str.ofString "draft" = Str.ofString "move") = False := eq_false (by decide +kernel)
@[simp] theorem sn_draft_wait : (Str.ofString "draft" = Str.ofString "wait") = False := eq_false (by decide +kernel)
@[simp] theorem sn_draft_save : (Str.ofString "draft" = Str.ofString "save") = False := eq_false (by decide +kernel)
@[simp] theorem sn_draft_house : (Str.ofString "draft" = Str.ofString "house") = False := eq_false (by decide +kernel)
@[simp] theorem sn_draft_user : (Str.ofString "draft" = Str.ofString "user") = False := eq_false (by decide +kernel)
@[simp] theorem sn_draft_seen : (Str.ofString "draft" = Str.ofString "seen") = False := eq_false (by decide +kernel)
@[simp] theorem sn_draft_done : (Str.ofString "draft" = Str.ofString "done") = False := eq_false (by decide +kernel)
@[simp] theorem sn_draft_back : (Str.ofString "draft" = Str.ofString "back") = False := eq_false (by decide +kernel)
@[simp] theorem sn_draft_given : (Str.ofString "draft" = Str.ofString "given") = False := eq_false (by decide +kernel)
@[simp] theorem sn_draft_writes : (Str.ofString "draft" = Str.ofString "writes") = False := eq_false (by decide +kernel)
@[simp] theorem sn_draft_users : (Str.ofString "draft" = Str.ofString "users") = False := eq_false (by decide +kernel)
@[simp] theorem sn_draft_down : (Str.ofString "draft" = Str.ofString "down") = False := eq_false (by decide +kernel)
@[simp] theorem sn_draft_away : (Str.ofString "draft" = Str.ofString "away") = False := eq_false (by decide +kernel)
@[simp] theorem sn_draft_post : (Str.ofString "draft" = Str.ofString "post") = False := eq_false (by decide +kernel)
@[simp] theorem sn_draft_first : (Str.ofString "draft" = Str.ofString "first") = False := eq_false (by decide +kernel)
@[simp] theorem sn_draft_rows : (Str.ofString "draft" = Str.ofString "rows") = False := eq_false (by decide +kernel)
@[simp] theorem sn_draft_open : (Str.ofString "draft" = Str.ofString "open") = False := eq_false (by decide +kernel)
@[simp] theorem sn_draft_time : (Str.ofString "draft" = Str.ofString "time") = False := eq_false (by decide +kernel)
@[simp] theorem sn_draft_turns : (Str.ofString "draft" = Str.ofString "turns") = False := eq_false (by decide +kernel)
@[simp] theorem sn_draft_notes : (Str.ofString "draft" = Str.ofString "notes") = False := eq_false (by decide +kernel)
@[simp] theorem sn_draft_lives : (Str.ofString "draft" = Str.ofString "lives") = False := eq_false (by decide +kernel)
@[simp] theorem sn_draft_all : (Str.ofString "draft" = Str.ofString "all") = False := eq_false (by decide +kernel)
@[simp] theorem sn_draft_note : (Str.ofString "draft" = Str.ofString "note") = False := eq_false (by decide +kernel)
@[simp] theorem sn_wait_look : (Str.ofString "wait" = Str.ofString "look") = False := eq_false (by decide +kernel)
@[simp] theorem sn_wait_put : (Str.ofString "wait" = Str.ofString "put") = False := eq_false (by decide +kernel)
@[simp] theorem sn_wait_add : (Str.ofString "wait" = Str.ofString "add") = False := eq_false (by decide +kernel)
@[simp] theorem sn_wait_move : (Str.ofString "wait" = Str.ofString "move") = False := eq_false (by decide +kernel)
@[simp] theorem sn_wait_draft : (Str.ofString "wait" = Str.ofString "draft") = False := eq_false (by decide +kernel)
@[simp] theorem sn_wait_save : (Str.ofString "wait" = Str.ofString "save") = False := eq_false (by decide +kernel)
@[simp] theorem sn_wait_house : (Str.ofString "wait" = Str.ofString "house") = False := eq_false (by decide +kernel)
@[simp] theorem sn_wait_user : (Str.ofString "wait" = Str.ofString "user") = False := eq_false (by decide +kernel)
@[simp] theorem sn_wait_seen : (Str.ofString "wait" = Str.ofString "seen") = False := eq_false (by decide +kernel)
@[simp] theorem sn_wait_done : (Str.ofString "wait" = Str.ofString "done") = False := eq_false (by decide +kernel)
@[simp] theorem sn_wait_back : (Str.ofString "wait" = Str.ofString "back") = False := eq_false (by decide +kernel)
@[simp] theorem sn_wait_given : (Str.ofString "wait" = Str.ofString "given") = False := eq_false (by decide +kernel)
@[simp] theorem sn_wait_writes : (Str.ofString "wait" = Str.ofString "writes") = False := eq_false (by decide +kernel)
@[simp] theorem sn_wait_users : (Str.ofString "wait" = Str.ofString "users") = False := eq_false (by decide +kernel)
@[simp] theorem sn_wait_down : (Str.ofString "wait" = Str.ofString "down") = False := eq_false (by decide +kernel)
@[simp] theorem sn_wait_away : (Str.ofString "wait" = Str.ofString "away") = False := eq_false (by decide +kernel)
@[simp] theorem sn_wait_post : (Str.ofString "wait" = Str.ofString "post") = False := eq_false (by decide +kernel)
@[simp] theorem sn_wait_first : (Str.ofString "wait" = Str.ofString "first") = False := eq_false (by decide +kernel)
@[simp] theorem sn_wait_rows : (Str.ofString "wait" = Str.ofString "rows") = False := eq_false (by decide +kernel)
@[simp] theorem sn_wait_open : (Str.ofString "wait" = Str.ofString "open") = False := eq_false (by decide +kernel)
@[simp] theorem sn_wait_time : (Str.ofString "wait" = Str.ofString "time") = False := eq_false (by decide +kernel)
@[simp] theorem sn_wait_turns : (Str.ofString "wait" = Str.ofString "turns") = False := eq_false (by decide +kernel)
@[simp] theorem sn_wait_notes : (Str.ofString "wait" = Str.ofString "notes") = False := eq_false (by decide +kernel)
@[simp] theorem sn_wait_lives : (Str.ofString "wait" = Str.ofString "lives") = False := eq_false (by decide +kernel)
@[simp] theorem sn_wait_all : (Str.ofString "wait" = Str.ofString "all") = False := eq_false (by decide +kernel)
@[simp] theorem sn_wait_note : (Str.ofString "wait" = Str.ofString "note") = False := eq_false (by decide +kernel)
@[simp] theorem sn_save_look : (Str.ofString "save" = Str.ofString "look") = False := eq_false (by decide +kernel)
@[simp] theorem sn_save_put : (Str.ofString "save" = Str.ofString "put") = False := eq_false (by decide +kernel)
@[simp] theorem sn_save_add : (Str.ofString "save" = Str.ofString "add") = False := eq_false (by decide +kernel)
@[simp] theorem sn_save_move : (Str.ofString "save" = Str.ofString "move") = False := eq_false (by decide +kernel)
@[simp] theorem sn_save_draft : (Str.ofString "save" = Str.ofString "draft") = False := eq_false (by decide +kernel)
@[simp] theorem sn_save_wait : (Str.ofString "save" = Str.ofString "wait") = False := eq_false (by decide +kernel)
@[simp] theorem sn_save_house : (Str.ofString "save" = Str.ofString "house") = False := eq_false (by decide +kernel)
@[simp] theorem sn_save_user : (Str.ofString "save" = Str.ofString "user") = False := eq_false (by decide +kernel)
@[simp] theorem sn_save_seen : (Str.ofString "save" = Str.ofString "seen") = False := eq_false (by decide +kernel)
@[simp] theorem sn_save_done : (Str.ofString "save" = Str.ofString "done") = False := eq_false (by decide +kernel)
@[simp] theorem sn_save_back : (Str.ofString "save" = Str.ofString "back") = False := eq_false (by decide +kernel)
@[simp] theorem sn_save_given : (Str.ofString "save" = Str.ofString "given") = False := eq_false (by decide +kernel)
@[simp] theorem sn_save_writes : (Str.ofString "save" = Str.ofString "writes") = False := eq_false (by decide +kernel)
@[simp] theorem sn_save_users : (Str.ofString "save" = Str.ofString "users") = False := eq_false (by decide +kernel)
@[simp] theorem sn_save_down : (Str.ofString "save" = Str.ofString "down") = False := eq_false (by decide +kernel)
@[simp] theorem sn_save_away : (Str.ofString "save" = Str.ofString "away") = False := eq_false (by decide +kernel)
@[simp] theorem sn_save_post : (Str.ofString "save" = Str.ofString "post") = False := eq_false (by decide +kernel)
@[simp] theorem sn_save_first : (Str.ofString "save" = Str.ofString "first") = False := eq_false (by decide +kernel)
@[simp] theorem sn_save_rows : (Str.ofString "save" = Str.ofString "rows") = False := eq_false (by decide +kernel)
@[simp] theorem sn_save_open : (Str.ofString "save" = Str.ofString "open") = False := eq_false (by decide +kernel)
@[simp] theorem sn_save_time : (Str.ofString "save" = Str.ofString "time") = False := eq_false (by decide +kernel)
@[simp] theorem sn_save_turns : (Str.ofString "save" = Str.ofString "turns") = False := eq_false (by decide +kernel)
@[simp] theorem sn_save_notes : (Str.ofString "save" = Str.ofString "notes") = False := eq_false (by decide +kernel)
@[simp] theorem sn_save_lives : (Str.ofString "save" = Str.ofString "lives") = False := eq_false (by decide +kernel)
@[simp] theorem sn_save_all : (Str.ofString "save" = Str.ofString "all") = False := eq_false (by decide +kernel)
@[simp] theorem sn_save_note : (Str.ofString "save" = Str.ofString "note") = False := eq_false (by decide +kernel)
@[simp] theorem sn_house_look : (Str.ofString "house" = Str.ofString "look") = False := eq_false (by decide +kernel)
@[simp] theorem sn_house_put : (Str.ofString "house" = Str.ofString "put") = False := eq_false (by decide +kernel)
@[simp] theorem sn_house_add : (Str.ofString "house" = Str.ofString "add") = False := eq_false (by decide +kernel)
@[simp] theorem sn_house_move : (Str.ofString "house" = Str.ofString "move") = False := eq_false (by decide +kernel)
@[simp] theorem sn_house_draft : (Str.ofString "house" = Str.ofString "draft") = False := eq_false (by decide +kernel)
@[simp] theorem sn_house_wait : (Str.ofString "house" = Str.ofString "wait") = False := eq_false (by decide +kernel)
@[simp] theorem sn_house_save : (Str.ofString "house" = Str.ofString "save") = False := eq_false (by decide +kernel)
@[simp] theorem sn_house_user : (Str.ofString "house" = Str.ofString "user") = False := eq_false (by decide +kernel)
@[simp] theorem sn_house_seen : (Str.ofString "house" = Str.ofString "seen") = False := eq_false (by decide +kernel)
@[simp] theorem sn_house_done : (Str.ofString "house" = Str.ofString "done") = False := eq_false (by decide +kernel)
@[simp] theorem sn_house_back : (Str.ofString "house" = Str.ofString "back") = False := eq_false (by decide +kernel)
@[simp] theorem sn_house_given : (Str.ofString "house" = Str.ofString "given") = False := eq_false (by decide +kernel)
@[simp] theorem sn_house_writes : (Str.ofString "house" = Str.ofString "writes") = False := eq_false (by decide +kernel)
@[simp] theorem sn_house_users : (Str.ofString "house" = Str.ofString "users") = False := eq_false (by decide +kernel)
@[simp] theorem sn_house_down : (Str.ofString "house" = Str.ofString "down") = False := eq_false (by decide +kernel)
@[simp] theorem sn_house_away : (Str.ofString "house" = Str.ofString "away") = False := eq_false (by decide +kernel)
@[simp] theorem sn_house_post : (Str.ofString "house" = Str.ofString "post") = False := eq_false (by decide +kernel)
@[simp] theorem sn_house_first : (Str.ofString "house" = Str.ofString "first") = False := eq_false (by decide +kernel)
@[simp] theorem sn_house_rows : (Str.ofString "house" = Str.ofString "rows") = False := eq_false (by decide +kernel)
@[simp] theorem sn_house_open : (Str.ofString "house" = Str.ofString "open") = False := eq_false (by decide +kernel)
@[simp] theorem sn_house_time : (Str.ofString "house" = Str.ofString "time") = False := eq_false (by decide +kernel)
@[simp] theorem sn_house_turns : (Str.ofString "house" = Str.ofString "turns") = False := eq_false (by decide +kernel)
@[simp] theorem sn_house_notes : (Str.ofString "house" = Str.ofString "notes") = False := eq_false (by decide +kernel)
@[simp] theorem sn_house_lives : (Str.ofString "house" = Str.ofString "lives") = False := eq_false (by decide +kernel)
@[simp] theorem sn_house_all : (Str.ofString "house" = Str.ofString "all") = False := eq_false (by decide +kernel)
@[simp] theorem sn_house_note : (Str.ofString "house" = Str.ofString "note") = False := eq_false (by decide +kernel)
@[simp] theorem sn_user_look : (Str.ofString "user" = Str.ofString "look") = False := eq_false (by decide +kernel)
@[simp] theorem sn_user_put : (Str.ofString "user" = Str.ofString "put") = False := eq_false (by decide +kernel)
@[simp] theorem sn_user_add : (Str.ofString "user" = Str.ofString "add") = False := eq_false (by decide +kernel)
@[simp] theorem sn_user_move : (Str.ofString "user" = Str.ofString "move") = False := eq_false (by decide +kernel)
@[simp] theorem sn_user_draft : (Str.ofString "user" = Str.ofString "draft") = False := eq_false (by decide +kernel)
@[simp] theorem sn_user_wait : (Str.ofString "user" = Str.ofString "wait") = False := eq_false (by decide +kernel)
@[simp] theorem sn_user_save : (Str.ofString "user" = Str.ofString "save") = False := eq_false (by decide +kernel)
@[simp] theorem sn_user_house : (Str.ofString "user" = Str.ofString "house") = False := eq_false (by decide +kernel)
@[simp] theorem sn_user_seen : (Str.ofString "user" = Str.ofString "seen") = False := eq_false (by decide +kernel)
@[simp] theorem sn_user_done : (Str.ofString "user" = Str.ofString "done") = False := eq_false (by decide +kernel)
@[simp] theorem sn_user_back : (Str.ofString "user" = Str.ofString "back") = False := eq_false (by decide +kernel)
@[simp] theorem sn_user_given : (Str.ofString "user" = Str.ofString "given") = False := eq_false (by decide +kernel)
@[simp] theorem sn_user_writes : (Str.ofString "user" = Str.ofString "writes") = False := eq_false (by decide +kernel)
@[simp] theorem sn_user_users : (Str.ofString "user" = Str.ofString "users") = False := eq_false (by decide +kernel)
@[simp] theorem sn_user_down : (Str.ofString "user" = Str.ofString "down") = False := eq_false (by decide +kernel)
@[simp] theorem sn_user_away : (Str.ofString "user" = Str.ofString "away") = False := eq_false (by decide +kernel)
@[simp] theorem sn_user_post : (Str.ofString "user" = Str.ofString "post") = False := eq_false (by decide +kernel)
@[simp] theorem sn_user_first : (Str.ofString "user" = Str.ofString "first") = False := eq_false (by decide +kernel)
@[simp] theorem sn_user_rows : (Str.ofString "user" = Str.ofString "rows") = False := eq_false (by decide +kernel)
@[simp] theorem sn_user_open : (Str.ofString "user" = Str.ofString "open") = False := eq_false (by decide +kernel)
@[simp] theorem sn_user_time : (Str.ofString "user" = Str.ofString "time") = False := eq_false (by decide +kernel)
@[simp] theorem sn_user_turns : (Str.ofString "user" = Str.ofString "turns") = False := eq_false (by decide +kernel)
@[simp] theorem sn_user_notes : (Str.ofString "user" = Str.ofString "notes") = False := eq_false (by decide +kernel)
@[simp] theorem sn_user_lives : (Str.ofString "user" = Str.ofString "lives") = False := eq_false (by decide +kernel)
@[simp] theorem sn_user_all : (Str.ofString "user" = Str.ofString "all") = False := eq_false (by decide +kernel)
@[simp] theorem sn_user_note : (Str.ofString "user" = Str.ofString "note") = False := eq_false (by decide +kernel)
@[simp] theorem sn_seen_look : (Str.ofString "seen" = Str.ofString "look") = False := eq_false (by decide +kernel)
@[simp] theorem sn_seen_put : (Str.ofString "seen" = Str.ofString "put") = False := eq_false (by decide +kernel)
@[simp] theorem sn_seen_add : (Str.ofString "seen" = Str.ofString "add") = False := eq_false (by decide +kernel)
@[simp] theorem sn_seen_move : (Str.ofString "seen" = Str.ofString "move") = False := eq_false (by decide +kernel)
@[simp] theorem sn_seen_draft : (Str.ofString "seen" = Str.ofString "draft") = False := eq_false (by decide +kernel)
@[simp] theorem sn_seen_wait : (Str.ofString "seen" = Str.ofString "wait") = False := eq_false (by decide +kernel)
@[simp] theorem sn_seen_save : (Str.ofString "seen" = Str.ofString "save") = False := eq_false (by decide +kernel)
@[simp] theorem sn_seen_house : (Str.ofString "seen" = Str.ofString "house") = False := eq_false (by decide +kernel)
@[simp] theorem sn_seen_user : (Str.ofString "seen" = Str.ofString "user") = False := eq_false (by decide +kernel)
@[simp] theorem sn_seen_done : (Str.ofString "seen" = Str.ofString "done") = False := eq_false (by decide +kernel)
@[simp] theorem sn_seen_back : (Str.ofString "seen" = Str.ofString "back") = False := eq_false (by decide +kernel)
@[simp] theorem sn_seen_given : (Str.ofString "seen" = Str.ofString "given") = False := eq_false (by decide +kernel)
@[simp] theorem sn_seen_writes : (Str.ofString "seen" = Str.ofString "writes") = False := eq_false (by decide +kernel)
@[simp] theorem sn_seen_users : (Str.ofString "seen" = Str.ofString "users") = False := eq_false (by decide +kernel)
@[simp] theorem sn_seen_down : (Str.ofString "seen" = Str.ofString "down") = False := eq_false (by decide +kernel)
@[simp] theorem sn_seen_away : (Str.ofString "seen" = Str.ofString "away") = False := eq_false (by decide +kernel)
@[simp] theorem sn_seen_post : (Str.ofString "seen" = Str.ofString "post") = False := eq_false (by decide +kernel)
@[simp] theorem sn_seen_first : (Str.ofString "seen" = Str.ofString "first") = False := eq_false (by decide +kernel)
@[simp] theorem sn_seen_rows : (Str.ofString "seen" = Str.ofString "rows") = False := eq_false (by decide +kernel)
@[simp] theorem sn_seen_open : (Str.ofString "seen" = Str.ofString "open") = False := eq_false (by decide +kernel)
@[simp] theorem sn_seen_time : (Str.ofString "seen" = Str.ofString "time") = False := eq_false (by decide +kernel)
@[simp] theorem sn_seen_turns : (Str.ofString "seen" = Str.ofString "turns") = False := eq_false (by decide +kernel)
@[simp] theorem sn_seen_notes : (Str.ofString "seen" = Str.ofString "notes") = False := eq_false (by decide +kernel)
@[simp] theorem sn_seen_lives : (Str.ofString "seen" = Str.ofString "lives") = False := eq_false (by decide +kernel)
@[simp] theorem sn_seen_all : (Str.ofString "seen" = Str.ofString "all") = False := eq_false (by decide +kernel)
@[simp] theorem sn_seen_note : (Str.ofString "seen" = Str.ofString "note") = False := eq_false (by decide +kernel)
@[simp] theorem sn_done_look : (Str.ofString "done" = Str.ofString "look") = False := eq_false (by decide +kernel)
@[simp] theorem sn_done_put : (Str.ofString "done" = Str.ofString "put") = False := eq_false (by decide +kernel)
@[simp] theorem sn_done_add : (Str.ofString "done" = Str.ofString "add") = False := eq_false (by decide +kernel)
@[simp] theorem sn_done_move : (Str.ofString "done" = Str.ofString "move") = False := eq_false (by decide +kernel)
@[simp] theorem sn_done_draft : (Str.ofString "done" = Str.ofString "draft") = False := eq_false (by decide +kernel)
@[simp] theorem sn_done_wait : (Str.ofString "done" = Str.ofString "wait") = False := eq_false (by decide +kernel)
@[simp] theorem sn_done_save : (Str.ofString "done" = Str.ofString "save") = False := eq_false (by decide +kernel)
@[simp] theorem sn_done_house : (Str.ofString "done" = Str.ofString "house") = False := eq_false (by decide +kernel)
@[simp] theorem sn_done_user : (Str.ofString "done" = Str.ofString "user") = False := eq_false (by decide +kernel)
@[simp] theorem sn_done_seen : (Str.ofString "done" = Str.ofString "seen") = False := eq_false (by decide +kernel)
@[simp] theorem sn_done_back : (Str.ofString "done" = Str.ofString "back") = False := eq_false (by decide +kernel)
@[simp] theorem sn_done_given : (Str.ofString "done" = Str.ofString "given") = False := eq_false (by decide +kernel)
@[simp] theorem sn_done_writes : (Str.ofString "done" = Str.ofString "writes") = False := eq_false (by decide +kernel)
@[simp] theorem sn_done_users : (Str.ofString "done" = Str.ofString "users") = False := eq_false (by decide +kernel)
@[simp] theorem sn_done_down : (Str.ofString "done" = Str.ofString "down") = False := eq_false (by decide +kernel)
@[simp] theorem sn_done_away : (Str.ofString "done" = Str.ofString "away") = False := eq_false (by decide +kernel)
@[simp] theorem sn_done_post : (Str.ofString "done" = Str.ofString "post") = False := eq_false (by decide +kernel)
@[simp] theorem sn_done_first : (Str.ofString "done" = Str.ofString "first") = False := eq_false (by decide +kernel)
@[simp] theorem sn_done_rows : (Str.ofString "done" = Str.ofString "rows") = False := eq_false (by decide +kernel)
@[simp] theorem sn_done_open : (Str.ofString "done" = Str.ofString "open") = False := eq_false (by decide +kernel)
@[simp] theorem sn_done_time : (Str.ofString "done" = Str.ofString "time") = False := eq_false (by decide +kernel)
@[simp] theorem sn_done_turns : (Str.ofString "done" = Str.ofString "turns") = False := eq_false (by decide +kernel)
@[simp] theorem sn_done_notes : (Str.ofString "done" = Str.ofString "notes") = False := eq_false (by decide +kernel)
@[simp] theorem sn_done_lives : (Str.ofString "done" = Str.ofString "lives") = False := eq_false (by decide +kernel)
@[simp] theorem sn_done_all : (Str.ofString "done" = Str.ofString "all") = False := eq_false (by decide +kernel)
@[simp] theorem sn_done_note : (Str.ofString "done" = Str.ofString "note") = False := eq_false (by decide +kernel)
@[simp] theorem sn_back_look : (Str.ofString "back" = Str.ofString "look") = False := eq_false (by decide +kernel)
@[simp] theorem sn_back_put : (Str.ofString "back" = Str.ofString "put") = False := eq_false (by decide +kernel)
@[simp] theorem sn_back_add : (Str.ofString "back" = Str.ofString "add") = False := eq_false (by decide +kernel)
@[simp] theorem sn_back_move : (Str.ofString "back" = Str.ofString "move") = False := eq_false (by decide +kernel)
@[simp] theorem sn_back_draft : (Str.ofString "back" = Str.ofString "draft") = False := eq_false (by decide +kernel)
@[simp] theorem sn_back_wait : (Str.ofString "back" = Str.ofString "wait") = False := eq_false (by decide +kernel)
@[simp] theorem sn_back_save : (Str.ofString "back" = Str.ofString "save") = False := eq_false (by decide +kernel)
@[simp] theorem sn_back_house : (Str.ofString "back" = Str.ofString "house") = False := eq_false (by decide +kernel)
@[simp] theorem sn_back_user : (Str.ofString "back" = Str.ofString "user") = False := eq_false (by decide +kernel)
@[simp] theorem sn_back_seen : (Str.ofString "back" = Str.ofString "seen") = False := eq_false (by decide +kernel)
@[simp] theorem sn_back_done : (Str.ofString "back" = Str.ofString "done") = False := eq_false (by decide +kernel)
@[simp] theorem sn_back_given : (Str.ofString "back" = Str.ofString "given") = False := eq_false (by decide +kernel)
@[simp] theorem sn_back_writes : (Str.ofString "back" = Str.ofString "writes") = False := eq_false (by decide +kernel)
@[simp] theorem sn_back_users : (Str.ofString "back" = Str.ofString "users") = False := eq_false (by decide +kernel)
@[simp] theorem sn_back_down : (Str.ofString "back" = Str.ofString "down") = False := eq_false (by decide +kernel)
@[simp] theorem sn_back_away : (Str.ofString "back" = Str.ofString "away") = False := eq_false (by decide +kernel)
@[simp] theorem sn_back_post : (Str.ofString "back" = Str.ofString "post") = False := eq_false (by decide +kernel)
@[simp] theorem sn_back_first : (Str.ofString "back" = Str.ofString "first") = False := eq_false (by decide +kernel)
@[simp] theorem sn_back_rows : (Str.ofString "back" = Str.ofString "rows") = False := eq_false (by decide +kernel)
@[simp] theorem sn_back_open : (Str.ofString "back" = Str.ofString "open") = False := eq_false (by decide +kernel)
@[simp] theorem sn_back_time : (Str.ofString "back" = Str.ofString "time") = False := eq_false (by decide +kernel)
@[simp] theorem sn_back_turns : (Str.ofString "back" = Str.ofString "turns") = False := eq_false (by decide +kernel)
@[simp] theorem sn_back_notes : (Str.ofString "back" = Str.ofString "notes") = False := eq_false (by decide +kernel)
@[simp] theorem sn_back_lives : (Str.ofString "back" = Str.ofString "lives") = False := eq_false (by decide +kernel)
@[simp] theorem sn_back_all : (Str.ofString "back" = Str.ofString "all") = False := eq_false (by decide +kernel)
@[simp] theorem sn_back_note : (Str.ofString "back" = Str.ofString "note") = False := eq_false (by decide +kernel)
@[simp] theorem sn_given_look : (Str.ofString "given" = Str.ofString "look") = False := eq_false (by decide +kernel)
@[simp] theorem sn_given_put : (Str.ofString "given" = Str.ofString "put") = False := eq_false (by decide +kernel)
@[simp] theorem sn_given_add : (Str.ofString "given" = Str.ofString "add") = False := eq_false (by decide +kernel)
@[simp] theorem sn_given_move : (Str.ofString "given" = Str.ofString "move") = False := eq_false (by decide +kernel)
@[simp] theorem sn_given_draft : (Str.ofString "given" = Str.ofString "draft") = False := eq_false (by decide +kernel)
@[simp] theorem sn_given_wait : (Str.ofString "given" = Str.ofString "wait") = False := eq_false (by decide +kernel)
@[simp] theorem sn_given_save : (Str.ofString "given" = Str.ofString "save") = False := eq_false (by decide +kernel)
@[simp] theorem sn_given_house : (Str.ofString "given" = Str.ofString "house") = False := eq_false (by decide +kernel)
@[simp] theorem sn_given_user : (Str.ofString "given" = Str.ofString "user") = False := eq_false (by decide +kernel)
@[simp] theorem sn_given_seen : (Str.ofString "given" = Str.ofString "seen") = False := eq_false (by decide +kernel)
@[simp] theorem sn_given_done : (Str.ofString "given" = Str.ofString "done") = False := eq_false (by decide +kernel)
@[simp] theorem sn_given_back : (Str.ofString "given" = Str.ofString "back") = False := eq_false (by decide +kernel)
@[simp] theorem sn_given_writes : (Str.ofString "given" = Str.ofString "writes") = False := eq_false (by decide +kernel)
@[simp] theorem sn_given_users : (Str.ofString "given" = Str.ofString "users") = False := eq_false (by decide +kernel)
@[simp] theorem sn_given_down : (Str.ofString "given" = Str.ofString "down") = False := eq_false (by decide +kernel)
@[simp] theorem sn_given_away : (Str.ofString "given" = Str.ofString "away") = False := eq_false (by decide +kernel)
@[simp] theorem sn_given_post : (Str.ofString "given" = Str.ofString "post") = False := eq_false (by decide +kernel)
@[simp] theorem sn_given_first : (Str.ofString "given" = Str.ofString "first") = False := eq_false (by decide +kernel)
@[simp] theorem sn_given_rows : (Str.ofString "given" = Str.ofString "rows") = False := eq_false (by decide +kernel)
@[simp] theorem sn_given_open : (Str.ofString "given" = Str.ofString "open") = False := eq_false (by decide +kernel)
@[simp] theorem sn_given_time : (Str.ofString "given" = Str.ofString "time") = False := eq_false (by decide +kernel)
@[simp] theorem sn_given_turns : (Str.ofString "given" = Str.ofString "turns") = False := eq_false (by decide +kernel)
@[simp] theorem sn_given_notes : (Str.ofString "given" = Str.ofString "notes") = False := eq_false (by decide +kernel)
@[simp] theorem sn_given_lives : (Str.ofString "given" = Str.ofString "lives") = False := eq_false (by decide +kernel)
@[simp] theorem sn_given_all : (Str.ofString "given" = Str.ofString "all") = False := eq_false (by decide +kernel)
@[simp] theorem sn_given_note : (Str.ofString "given" = Str.ofString "note") = False := eq_false (by decide +kernel)
@[simp] theorem sn_writes_look : (Str.ofString "writes" = Str.ofString "look") = False := eq_false (by decide +kernel)
@[simp] theorem sn_writes_put : (Str.ofString "writes" = Str.ofString "put") = False := eq_false (by decide +kernel)
@[simp] theorem sn_writes_add : (Str.ofString "writes" = Str.ofString "add") = False := eq_false (by decide +kernel)
@[simp] theorem sn_writes_move : (Str.ofString "writes" = Str.ofString "move") = False := eq_false (by decide +kernel)
@[simp] theorem sn_writes_draft : (Str.ofString "writes" = Str.ofString "draft") = False := eq_false (by decide +kernel)
@[simp] theorem sn_writes_wait : (Str.ofString "writes" = Str.ofString "wait") = False := eq_false (by decide +kernel)
@[simp] theorem sn_writes_save : (Str.ofString "writes" = Str.ofString "save") = False := eq_false (by decide +kernel)
@[simp] theorem sn_writes_house : (Str.ofString "writes" = Str.ofString "house") = False := eq_false (by decide +kernel)
@[simp] theorem sn_writes_user : (Str.ofString "writes" = Str.ofString "user") = False := eq_false (by decide +kernel)
@[simp] theorem sn_writes_seen : (Str.ofString "writes" = Str.ofString "seen") = False := eq_false (by decide +kernel)
@[simp] theorem sn_writes_done : (Str.ofString "writes" = Str.ofString "done") = False := eq_false (by decide +kernel)
@[simp] theorem sn_writes_back : (Str.ofString "writes" = Str.ofString "back") = False := eq_false (by decide +kernel)
@[simp] theorem sn_writes_given : (Str.ofString "writes" = Str.ofString "given") = False := eq_false (by decide +kernel)
@[simp] theorem sn_writes_users : (Str.ofString "writes" = Str.ofString "users") = False := eq_false (by decide +kernel)
@[simp] theorem sn_writes_down : (Str.ofString "writes" = Str.ofString "down") = False := eq_false (by decide +kernel)
@[simp] theorem sn_writes_away : (Str.ofString "writes" = Str.ofString "away") = False := eq_false (by decide +kernel)
@[simp] theorem sn_writes_post : (Str.ofString "writes" = Str.ofString "post") = False := eq_false (by decide +kernel)
@[simp] theorem sn_writes_first : (Str.ofString "writes" = Str.ofString "first") = False := eq_false (by decide +kernel)
@[simp] theorem sn_writes_rows : (Str.ofString "writes" = Str.ofString "rows") = False := eq_false (by decide +kernel)
@[simp] theorem sn_writes_open : (Str.ofString "writes" = Str.ofString "open") = False := eq_false (by decide +kernel)
@[simp] theorem sn_writes_time : (Str.ofString "writes" = Str.ofString "time") = False := eq_false (by decide +kernel)
@[simp] theorem sn_writes_turns : (Str.ofString "writes" = Str.ofString "turns") = False := eq_false (by decide +kernel)
@[simp] theorem sn_writes_notes : (Str.ofString "writes" = Str.ofString "notes") = False := eq_false (by decide +kernel)
@[simp] theorem sn_writes_lives : (Str.ofString "writes" = Str.ofString "lives") = False := eq_false (by decide +kernel)
@[simp] theorem sn_writes_all : (Str.ofString "writes" = Str.ofString "all") = False := eq_false (by decide +kernel)
@[simp] theorem sn_writes_note : (Str.ofString "writes" = Str.ofString "note") = False := eq_false (by decide +kernel)
@[simp] theorem sn_users_look : (Str.ofString "users" = Str.ofString "look") = False := eq_false (by decide +kernel)
@[simp] theorem sn_users_put : (Str.ofString "users" = Str.ofString "put") = False := eq_false (by decide +kernel)
@[simp] theorem sn_users_add : (Str.ofString "users" = Str.ofString "add") = False := eq_false (by decide +kernel)
@[simp] theorem sn_users_move : (Str.ofString "users" = Str.ofString "move") = False := eq_false (by decide +kernel)
@[simp] theorem sn_users_draft : (Str.ofString "users" = Str.ofString "draft") = False := eq_false (by decide +kernel)
@[simp] theorem sn_users_wait : (Str.ofString "users" = Str.ofString "wait") = False := eq_false (by decide +kernel)
@[simp] theorem sn_users_save : (Str.ofString "users" = Str.ofString "save") = False := eq_false (by decide +kernel)
@[simp] theorem sn_users_house : (Str.ofString "users" = Str.ofString "house") = False := eq_false (by decide +kernel)
@[simp] theorem sn_users_user : (Str.ofString "users" = Str.ofString "user") = False := eq_false (by decide +kernel)
@[simp] theorem sn_users_seen : (Str.ofString "users" = Str.ofString "seen") = False := eq_false (by decide +kernel)
@[simp] theorem sn_users_done : (Str.ofString "users" = Str.ofString "done") = False := eq_false (by decide +kernel)
@[simp] theorem sn_users_back : (Str.ofString "users" = Str.ofString "back") = False := eq_false (by decide +kernel)
@[simp] theorem sn_users_given : (Str.ofString "users" = Str.ofString "given") = False := eq_false (by decide +kernel)
@[simp] theorem sn_users_writes : (Str.ofString "users" = Str.ofString "writes") = False := eq_false (by decide +kernel)
@[simp] theorem sn_users_down : (Str.ofString "users" = Str.ofString "down") = False := eq_false (by decide +kernel)
@[simp] theorem sn_users_away : (Str.ofString "users" = Str.ofString "away") = False := eq_false (by decide +kernel)
@[simp] theorem sn_users_post : (Str.ofString "users" = Str.ofString "post") = False := eq_false (by decide +kernel)
@[simp] theorem sn_users_first : (Str.ofString "users" = Str.ofString "first") = False := eq_false (by decide +kernel)
@[simp] theorem sn_users_rows : (Str.ofString "users" = Str.ofString "rows") = False := eq_false (by decide +kernel)
@[simp] theorem sn_users_open : (Str.ofString "users" = Str.ofString "open") = False := eq_false (by decide +kernel)
@[simp] theorem sn_users_time : (Str.ofString "users" = Str.ofString "time") = False := eq_false (by decide +kernel)
@[simp] theorem sn_users_turns : (Str.ofString "users" = Str.ofString "turns") = False := eq_false (by decide +kernel)
@[simp] theorem sn_users_notes : (Str.ofString "users" = Str.ofString "notes") = False := eq_false (by decide +kernel)
@[simp] theorem sn_users_lives : (Str.ofString "users" = Str.ofString "lives") = False := eq_false (by decide +kernel)
@[simp] theorem sn_users_all : (Str.ofString "users" = Str.ofString "all") = False := eq_false (by decide +kernel)
@[simp] theorem sn_users_note : (Str.ofString "users" = Str.ofString "note") = False := eq_false (by decide +kernel)
@[simp] theorem sn_down_look : (Str.ofString "down" = Str.ofString "look") = False := eq_false (by decide +kernel)
@[simp] theorem sn_down_put : (Str.ofString "down" = Str.ofString "put") = False := eq_false (by decide +kernel)
@[simp] theorem sn_down_add : (Str.ofString "down" = Str.ofString "add") = False := eq_false (by decide +kernel)
@[simp] theorem sn_down_move : (Str.ofString "down" = Str.ofString "move") = False := eq_false (by decide +kernel)
@[simp] theorem sn_down_draft : (Str.ofString "down" = Str.ofString "draft") = False := eq_false (by decide +kernel)
@[simp] theorem sn_down_wait : (Str.ofString "down" = Str.ofString "wait") = False := eq_false (by decide +kernel)
@[simp] theorem sn_down_save : (Str.ofString "down" = Str.ofString "save") = False := eq_false (by decide +kernel)
@[simp] theorem sn_down_house : (Str.ofString "down" = Str.ofString "house") = False := eq_false (by decide +kernel)
@[simp] theorem sn_down_user : (Str.ofString "down" = Str.ofString "user") = False := eq_false (by decide +kernel)
@[simp] theorem sn_down_seen : (Str.ofString "down" = Str.ofString "seen") = False := eq_false (by decide +kernel)
@[simp] theorem sn_down_done : (Str.ofString "down" = Str.ofString "done") = False := eq_false (by decide +kernel)
@[simp] theorem sn_down_back : (Str.ofString "down" = Str.ofString "back") = False := eq_false (by decide +kernel)
@[simp] theorem sn_down_given : (Str.ofString "down" = Str.ofString "given") = False := eq_false (by decide +kernel)
@[simp] theorem sn_down_writes : (Str.ofString "down" = Str.ofString "writes") = False := eq_false (by decide +kernel)
@[simp] theorem sn_down_users : (Str.ofString "down" = Str.ofString "users") = False := eq_false (by decide +kernel)
@[simp] theorem sn_down_away : (Str.ofString "down" = Str.ofString "away") = False := eq_false (by decide +kernel)
@[simp] theorem sn_down_post : (Str.ofString "down" = Str.ofString "post") = False := eq_false (by decide +kernel)
@[simp] theorem sn_down_first : (Str.ofString "down" = Str.ofString "first") = False := eq_false (by decide +kernel)
@[simp] theorem sn_down_rows : (Str.ofString "down" = Str.ofString "rows") = False := eq_false (by decide +kernel)
@[simp] theorem sn_down_open : (Str.ofString "down" = Str.ofString "open") = False := eq_false (by decide +kernel)
@[simp] theorem sn_down_time : (Str.ofString "down" = Str.ofString "time") = False := eq_false (by decide +kernel)
@[simp] theorem sn_down_turns : (Str.ofString "down" = Str.ofString "turns") = False := eq_false (by decide +kernel)
@[simp] theorem sn_down_notes : (Str.ofString "down" = Str.ofString "notes") = False := eq_false (by decide +kernel)
@[simp] theorem sn_down_lives : (Str.ofString "down" = Str.ofString "lives") = False := eq_false (by decide +kernel)
@[simp] theorem sn_down_all : (Str.ofString "down" = Str.ofString "all") = False := eq_false (by decide +kernel)
@[simp] theorem sn_down_note : (Str.ofString "down" = Str.ofString "note") = False := eq_false (by decide +kernel)
@[simp] theorem sn_away_look : (Str.ofString "away" = Str.ofString "look") = False := eq_false (by decide +kernel)
@[simp] theorem sn_away_put : (Str.ofString "away" = Str.ofString "put") = False := eq_false (by decide +kernel)
@[simp] theorem sn_away_add : (Str.ofString "away" = Str.ofString "add") = False := eq_false (by decide +kernel)
@[simp] theorem sn_away_move : (Str.ofString "away" = Str.ofString "move") = False := eq_false (by decide +kernel)
@[simp] theorem sn_away_draft : (Str.ofString "away" = Str.ofString "draft") = False := eq_false (by decide +kernel)
@[simp] theorem sn_away_wait : (Str.ofString "away" = Str.ofString "wait") = False := eq_false (by decide +kernel)
@[simp] theorem sn_away_save : (Str.ofString "away" = Str.ofString "save") = False := eq_false (by decide +kernel)
@[simp] theorem sn_away_house : (Str.ofString "away" = Str.ofString "house") = False := eq_false (by decide +kernel)
@[simp] theorem sn_away_user : (Str.ofString "away" = Str.ofString "user") = False := eq_false (by decide +kernel)
@[simp] theorem sn_away_seen : (Str.ofString "away" = Str.ofString "seen") = False := eq_false (by decide +kernel)
@[simp] theorem sn_away_done : (Str.ofString "away" = Str.ofString "done") = False := eq_false (by decide +kernel)
@[simp] theorem sn_away_back : (Str.ofString "away" = Str.ofString "back") = False := eq_false (by decide +kernel)
@[simp] theorem sn_away_given : (Str.ofString "away" = Str.ofString "given") = False := eq_false (by decide +kernel)
@[simp] theorem sn_away_writes : (Str.ofString "away" = Str.ofString "writes") = False := eq_false (by decide +kernel)
@[simp] theorem sn_away_users : (Str.ofString "away" = Str.ofString "users") = False := eq_false (by decide +kernel)
@[simp] theorem sn_away_down : (Str.ofString "away" = Str.ofString "down") = False := eq_false (by decide +kernel)
@[simp] theorem sn_away_post : (Str.ofString "away" = Str.ofString "post") = False := eq_false (by decide +kernel)
@[simp] theorem sn_away_first : (Str.ofString "away" = Str.ofString "first") = False := eq_false (by decide +kernel)
@[simp] theorem sn_away_rows : (Str.ofString "away" = Str.ofString "rows") = False := eq_false (by decide +kernel)
@[simp] theorem sn_away_open : (Str.ofString "away" = Str.ofString "open") = False := eq_false (by decide +kernel)
@[simp] theorem sn_away_time : (Str.ofString "away" = Str.ofString "time") = False := eq_false (by decide +kernel)
@[simp] theorem sn_away_turns : (Str.ofString "away" = Str.ofString "turns") = False := eq_false (by decide +kernel)
@[simp] theorem sn_away_notes : (Str.ofString "away" = Str.ofString "notes") = False := eq_false (by decide +kernel)
@[simp] theorem sn_away_lives : (Str.ofString "away" = Str.ofString "lives") = False := eq_false (by decide +kernel)
@[simp] theorem sn_away_all : (Str.ofString "away" = Str.ofString "all") = False := eq_false (by decide +kernel)
@[simp] theorem sn_away_note : (Str.ofString "away" = Str.ofString "note") = False := eq_false (by decide +kernel)
@[simp] theorem sn_post_look : (Str.ofString "post" = Str.ofString "look") = False := eq_false (by decide +kernel)
@[simp] theorem sn_post_put : (Str.ofString "post" = Str.ofString "put") = False := eq_false (by decide +kernel)
@[simp] theorem sn_post_add : (Str.ofString "post" = Str.ofString "add") = False := eq_false (by decide +kernel)
@[simp] theorem sn_post_move : (Str.ofString "post" = Str.ofString "move") = False := eq_false (by decide +kernel)
@[simp] theorem sn_post_draft : (Str.ofString "post" = Str.ofString "draft") = False := eq_false (by decide +kernel)
@[simp] theorem sn_post_wait : (Str.ofString "post" = Str.ofString "wait") = False := eq_false (by decide +kernel)
@[simp] theorem sn_post_save : (Str.ofString "post" = Str.ofString "save") = False := eq_false (by decide +kernel)
@[simp] theorem sn_post_house : (Str.ofString "post" = Str.ofString "house") = False := eq_false (by decide +kernel)
@[simp] theorem sn_post_user : (Str.ofString "post" = Str.ofString "user") = False := eq_false (by decide +kernel)
@[simp] theorem sn_post_seen : (Str.ofString "post" = Str.ofString "seen") = False := eq_false (by decide +kernel)
@[simp] theorem sn_post_done : (Str.ofString "post" = Str.ofString "done") = False := eq_false (by decide +kernel)
@[simp] theorem sn_post_back : (Str.ofString "post" = Str.ofString "back") = False := eq_false (by decide +kernel)
@[simp] theorem sn_post_given : (Str.ofString "post" = Str.ofString "given") = False := eq_false (by decide +kernel)
@[simp] theorem sn_post_writes : (Str.ofString "post" = Str.ofString "writes") = False := eq_false (by decide +kernel)
@[simp] theorem sn_post_users : (Str.ofString "post" = Str.ofString "users") = False := eq_false (by decide +kernel)
@[simp] theorem sn_post_down : (Str.ofString "post" = Str.ofString "down") = False := eq_false (by decide +kernel)
@[simp] theorem sn_post_away : (Str.ofString "post" = Str.ofString "away") = False := eq_false (by decide +kernel)
@[simp] theorem sn_post_first : (Str.ofString "post" = Str.ofString "first") = False := eq_false (by decide +kernel)
@[simp] theorem sn_post_rows : (Str.ofString "post" = Str.ofString "rows") = False := eq_false (by decide +kernel)
@[simp] theorem sn_post_open : (Str.ofString "post" = Str.ofString "open") = False := eq_false (by decide +kernel)
@[simp] theorem sn_post_time : (Str.ofString "post" = Str.ofString "time") = False := eq_false (by decide +kernel)
@[simp] theorem sn_post_turns : (Str.ofString "post" = Str.ofString "turns") = False := eq_false (by decide +kernel)
@[simp] theorem sn_post_notes : (Str.ofString "post" = Str.ofString "notes") = False := eq_false (by decide +kernel)
@[simp] theorem sn_post_lives : (Str.ofString "post" = Str.ofString "lives") = False := eq_false (by decide +kernel)
@[simp] theorem sn_post_all : (Str.ofString "post" = Str.ofString "all") = False := eq_false (by decide +kernel)
@[simp] theorem sn_post_note : (Str.ofString "post" = Str.ofString "note") = False := eq_false (by decide +kernel)
@[simp] theorem sn_first_look : (Str.ofString "first" = Str.ofString "look") = False := eq_false (by decide +kernel)
@[simp] theorem sn_first_put : (Str.ofString "first" = Str.ofString "put") = False := eq_false (by decide +kernel)
@[simp] theorem sn_first_add : (Str.ofString "first" = Str.ofString "add") = False := eq_false (by decide +kernel)
@[simp] theorem sn_first_move : (Str.ofString "first" = Str.ofString "move") = False := eq_false (by decide +kernel)
@[simp] theorem sn_first_draft : (Str.ofString "first" = Str.ofString "draft") = False := eq_false (by decide +kernel)
@[simp] theorem sn_first_wait : (Str.ofString "first" = Str.ofString "wait") = False := eq_false (by decide +kernel)
@[simp] theorem sn_first_save : (Str.ofString "first" = Str.ofString "save") = False := eq_false (by decide +kernel)
@[simp] theorem sn_first_house : (Str.ofString "first" = Str.ofString "house") = False := eq_false (by decide +kernel)
@[simp] theorem sn_first_user : (Str.ofString "first" = Str.ofString "user") = False := eq_false (by decide +kernel)
@[simp] theorem sn_first_seen : (Str.ofString "first" = Str.ofString "seen") = False := eq_false (by decide +kernel)
@[simp] theorem sn_first_done : (Str.ofString "first" = Str.ofString "done") = False := eq_false (by decide +kernel)
@[simp] theorem sn_first_back : (Str.ofString "first" = Str.ofString "back") = False := eq_false (by decide +kernel)
@[simp] theorem sn_first_given : (Str.ofString "first" = Str.ofString "given") = False := eq_false (by decide +kernel)
@[simp] theorem sn_first_writes : (Str.ofString "first" = Str.ofString "writes") = False := eq_false (by decide +kernel)
@[simp] theorem sn_first_users : (Str.ofString "first" = Str.ofString "users") = False := eq_false (by decide +kernel)
@[simp] theorem sn_first_down : (Str.ofString "first" = Str.ofString "down") = False := eq_false (by decide +kernel)
@[simp] theorem sn_first_away : (Str.ofString "first" = Str.ofString "away") = False := eq_false (by decide +kernel)
@[simp] theorem sn_first_post : (Str.ofString "first" = Str.ofString "post") = False := eq_false (by decide +kernel)
@[simp] theorem sn_first_rows : (Str.ofString "first" = Str.ofString "rows") = False := eq_false (by decide +kernel)
@[simp] theorem sn_first_open : (Str.ofString "first" = Str.ofString "open") = False := eq_false (by decide +kernel)
@[simp] theorem sn_first_time : (Str.ofString "first" = Str.ofString "time") = False := eq_false (by decide +kernel)
@[simp] theorem sn_first_turns : (Str.ofString "first" = Str.ofString "turns") = False := eq_false (by decide +kernel)
@[simp] theorem sn_first_notes : (Str.ofString "first" = Str.ofString "notes") = False := eq_false (by decide +kernel)
@[simp] theorem sn_first_lives : (Str.ofString "first" = Str.ofString "lives") = False := eq_false (by decide +kernel)
@[simp] theorem sn_first_all : (Str.ofString "first" = Str.ofString "all") = False := eq_false (by decide +kernel)
@[simp] theorem sn_first_note : (Str.ofString "first" = Str.ofString "note") = False := eq_false (by decide +kernel)
@[simp] theorem sn_rows_look : (Str.ofString "rows" = Str.ofString "look") = False := eq_false (by decide +kernel)
@[simp] theorem sn_rows_put : (Str.ofString "rows" = Str.ofString "put") = False := eq_false (by decide +kernel)
@[simp] theorem sn_rows_add : (Str.ofString "rows" = Str.ofString "add") = False := eq_false (by decide +kernel)
@[simp] theorem sn_rows_move : (Str.ofString "rows" = Str.ofString "move") = False := eq_false (by decide +kernel)
@[simp] theorem sn_rows_draft : (Str.ofString "rows" = Str.ofString "draft") = False := eq_false (by decide +kernel)
@[simp] theorem sn_rows_wait : (Str.ofString "rows" = Str.ofString "wait") = False := eq_false (by decide +kernel)
@[simp] theorem sn_rows_save : (Str.ofString "rows" = Str.ofString "save") = False := eq_false (by decide +kernel)
@[simp] theorem sn_rows_house : (Str.ofString "rows" = Str.ofString "house") = False := eq_false (by decide +kernel)
@[simp] theorem sn_rows_user : (Str.ofString "rows" = Str.ofString "user") = False := eq_false (by decide +kernel)
@[simp] theorem sn_rows_seen : (Str.ofString "rows" = Str.ofString "seen") = False := eq_false (by decide +kernel)
@[simp] theorem sn_rows_done : (Str.ofString "rows" = Str.ofString "done") = False := eq_false (by decide +kernel)
@[simp] theorem sn_rows_back : (Str.ofString "rows" = Str.ofString "back") = False := eq_false (by decide +kernel)
@[simp] theorem sn_rows_given : (Str.ofString "rows" = Str.ofString "given") = False := eq_false (by decide +kernel)
@[simp] theorem sn_rows_writes : (Str.ofString "rows" = Str.ofString "writes") = False := eq_false (by decide +kernel)
@[simp] theorem sn_rows_users : (Str.ofString "rows" = Str.ofString "users") = False := eq_false (by decide +kernel)
@[simp] theorem sn_rows_down : (Str.ofString "rows" = Str.ofString "down") = False := eq_false (by decide +kernel)
@[simp] theorem sn_rows_away : (Str.ofString "rows" = Str.ofString "away") = False := eq_false (by decide +kernel)
@[simp] theorem sn_rows_post : (Str.ofString "rows" = Str.ofString "post") = False := eq_false (by decide +kernel)
@[simp] theorem sn_rows_first : (Str.ofString "rows" = Str.ofString "first") = False := eq_false (by decide +kernel)
@[simp] theorem sn_rows_open : (Str.ofString "rows" = Str.ofString "open") = False := eq_false (by decide +kernel)
@[simp] theorem sn_rows_time : (Str.ofString "rows" = Str.ofString "time") = False := eq_false (by decide +kernel)
@[simp] theorem sn_rows_turns : (Str.ofString "rows" = Str.ofString "turns") = False := eq_false (by decide +kernel)
@[simp] theorem sn_rows_notes : (Str.ofString "rows" = Str.ofString "notes") = False := eq_false (by decide +kernel)
@[simp] theorem sn_rows_lives : (Str.ofString "rows" = Str.ofString "lives") = False := eq_false (by decide +kernel)
@[simp] theorem sn_rows_all : (Str.ofString "rows" = Str.ofString "all") = False := eq_false (by decide +kernel)
@[simp] theorem sn_rows_note : (Str.ofString "rows" = Str.ofString "note") = False := eq_false (by decide +kernel)
@[simp] theorem sn_open_look : (Str.ofString "open" = Str.ofString "look") = False := eq_false (by decide +kernel)
@[simp] theorem sn_open_put : (Str.ofString "open" = Str.ofString "put") = False := eq_false (by decide +kernel)
@[simp] theorem sn_open_add : (Str.ofString "open" = Str.ofString "add") = False := eq_false (by decide +kernel)
@[simp] theorem sn_open_move : (Str.ofString "open" = Str.ofString "move") = False := eq_false (by decide +kernel)
@[simp] theorem sn_open_draft : (Str.ofString "open" = Str.ofString "draft") = False := eq_false (by decide +kernel)
@[simp] theorem sn_open_wait : (Str.ofString "open" = Str.ofString "wait") = False := eq_false (by decide +kernel)
@[simp] theorem sn_open_save : (Str.ofString "open" = Str.ofString "save") = False := eq_false (by decide +kernel)
@[simp] theorem sn_open_house : (Str.ofString "open" = Str.ofString "house") = False := eq_false (by decide +kernel)
@[simp] theorem sn_open_user : (Str.ofString "open" = Str.ofString "user") = False := eq_false (by decide +kernel)
@[simp] theorem sn_open_seen : (Str.ofString "open" = Str.ofString "seen") = False := eq_false (by decide +kernel)
@[simp] theorem sn_open_done : (Str.ofString "open" = Str.ofString "done") = False := eq_false (by decide +kernel)
@[simp] theorem sn_open_back : (Str.ofString "open" = Str.ofString "back") = False := eq_false (by decide +kernel)
@[simp] theorem sn_open_given : (Str.ofString "open" = Str.ofString "given") = False := eq_false (by decide +kernel)
@[simp] theorem sn_open_writes : (Str.ofString "open" = Str.ofString "writes") = False := eq_false (by decide +kernel)
@[simp] theorem sn_open_users : (Str.ofString "open" = Str.ofString "users") = False := eq_false (by decide +kernel)
@[simp] theorem sn_open_down : (Str.ofString "open" = Str.ofString "down") = False := eq_false (by decide +kernel)
@[simp] theorem sn_open_away : (Str.ofString "open" = Str.ofString "away") = False := eq_false (by decide +kernel)
@[simp] theorem sn_open_post : (Str.ofString "open" = Str.ofString "post") = False := eq_false (by decide +kernel)
@[simp] theorem sn_open_first : (Str.ofString "open" = Str.ofString "first") = False := eq_false (by decide +kernel)
@[simp] theorem sn_open_rows : (Str.ofString "open" = Str.ofString "rows") = False := eq_false (by decide +kernel)
@[simp] theorem sn_open_time : (Str.ofString "open" = Str.ofString "time") = False := eq_false (by decide +kernel)
@[simp] theorem sn_open_turns : (Str.ofString "open" = Str.ofString "turns") = False := eq_false (by decide +kernel)
@[simp] theorem sn_open_notes : (Str.ofString "open" = Str.ofString "notes") = False := eq_false (by decide +kernel)
@[simp] theorem sn_open_lives : (Str.ofString "open" = Str.ofString "lives") = False := eq_false (by decide +kernel)
@[simp] theorem sn_open_all : (Str.ofString "open" = Str.ofString "all") = False := eq_false (by decide +kernel)
@[simp] theorem sn_open_note : (Str.ofString "open" = Str.ofString "note") = False := eq_false (by decide +kernel)
@[simp] theorem sn_time_look : (Str.ofString "time" = Str.ofString "look") = False := eq_false (by decide +kernel)
@[simp] theorem sn_time_put : (Str.ofString "time" = Str.ofString "put") = False := eq_false (by decide +kernel)
@[simp] theorem sn_time_add : (Str.ofString "time" = Str.ofString "add") = False := eq_false (by decide +kernel)
@[simp] theorem sn_time_move : (Str.ofString "time" = Str.ofString "move") = False := eq_false (by decide +kernel)
@[simp] theorem sn_time_draft : (Str.ofString "time" = Str.ofString "draft") = False := eq_false (by decide +kernel)
@[simp] theorem sn_time_wait : (Str.ofString "time" = Str.ofString "wait") = False := eq_false (by decide +kernel)
@[simp] theorem sn_time_save : (Str.ofString "time" = Str.ofString "save") = False := eq_false (by decide +kernel)
@[simp] theorem sn_time_house : (Str.ofString "time" = Str.ofString "house") = False := eq_false (by decide +kernel)
@[simp] theorem sn_time_user : (Str.ofString "time" = Str.ofString "user") = False := eq_false (by decide +kernel)
@[simp] theorem sn_time_seen : (Str.ofString "time" = Str.ofString "seen") = False := eq_false (by decide +kernel)
@[simp] theorem sn_time_done : (Str.ofString "time" = Str.ofString "done") = False := eq_false (by decide +kernel)
@[simp] theorem sn_time_back : (Str.ofString "time" = Str.ofString "back") = False := eq_false (by decide +kernel)
@[simp] theorem sn_time_given : (Str.ofString "time" = Str.ofString "given") = False := eq_false (by decide +kernel)
@[simp] theorem sn_time_writes : (Str.ofString "time" = Str.ofString "writes") = False := eq_false (by decide +kernel)
@[simp] theorem sn_time_users : (Str.ofString "time" = Str.ofString "users") = False := eq_false (by decide +kernel)
@[simp] theorem sn_time_down : (Str.ofString "time" = Str.ofString "down") = False := eq_false (by decide +kernel)
@[simp] theorem sn_time_away : (Str.ofString "time" = Str.ofString "away") = False := eq_false (by decide +kernel)
@[simp] theorem sn_time_post : (Str.ofString "time" = Str.ofString "post") = False := eq_false (by decide +kernel)
@[simp] theorem sn_time_first : (Str.ofString "time" = Str.ofString "first") = False := eq_false (by decide +kernel)
@[simp] theorem sn_time_rows : (Str.ofString "time" = Str.ofString "rows") = False := eq_false (by decide +kernel)
@[simp] theorem sn_time_open : (Str.ofString "time" = Str.ofString "open") = False := eq_false (by decide +kernel)
@[simp] theorem sn_time_turns : (Str.ofString "time" = Str.ofString "turns") = False := eq_false (by decide +kernel)
@[simp] theorem sn_time_notes : (Str.ofString "time" = Str.ofString "notes") = False := eq_false (by decide +kernel)
@[simp] theorem sn_time_lives : (Str.ofString "time" = Str.ofString "lives") = False := eq_false (by decide +kernel)
@[simp] theorem sn_time_all : (Str.ofString "time" = Str.ofString "all") = False := eq_false (by decide +kernel)
@[simp] theorem sn_time_note : (Str.ofString "time" = Str.ofString "note") = False := eq_false (by decide +kernel)
@[simp] theorem sn_turns_look : (Str.ofString "turns" = Str.ofString "look") = False := eq_false (by decide +kernel)
@[simp] theorem sn_turns_put : (Str.ofString "turns" = Str.ofString "put") = False := eq_false (by decide +kernel)
@[simp] theorem sn_turns_add : (Str.ofString "turns" = Str.ofString "add") = False := eq_false (by decide +kernel)
@[simp] theorem sn_turns_move : (Str.ofString "turns" = Str.ofString "move") = False := eq_false (by decide +kernel)
@[simp] theorem sn_turns_draft : (Str.ofString "turns" = Str.ofString "draft") = False := eq_false (by decide +kernel)
@[simp] theorem sn_turns_wait : (Str.ofString "turns" = Str.ofString "wait") = False := eq_false (by decide +kernel)
@[simp] theorem sn_turns_save : (Str.ofString "turns" = Str.ofString "save") = False := eq_false (by decide +kernel)
@[simp] theorem sn_turns_house : (Str.ofString "turns" = Str.ofString "house") = False := eq_false (by decide +kernel)
@[simp] theorem sn_turns_user : (Str.ofString "turns" = Str.ofString "user") = False := eq_false (by decide +kernel)
@[simp] theorem sn_turns_seen : (Str.ofString "turns" = Str.ofString "seen") = False := eq_false (by decide +kernel)
@[simp] theorem sn_turns_done : (Str.ofString "turns" = Str.ofString "done") = False := eq_false (by decide +kernel)
@[simp] theorem sn_turns_back : (Str.ofString "turns" = Str.ofString "back") = False := eq_false (by decide +kernel)
@[simp] theorem sn_turns_given : (Str.ofString "turns" = Str.ofString "given") = False := eq_false (by decide +kernel)
@[simp] theorem sn_turns_writes : (Str.ofString "turns" = Str.ofString "writes") = False := eq_false (by decide +kernel)
@[simp] theorem sn_turns_users : (Str.ofString "turns" = Str.ofString "users") = False := eq_false (by decide +kernel)
@[simp] theorem sn_turns_down : (Str.ofString "turns" = Str.ofString "down") = False := eq_false (by decide +kernel)
@[simp] theorem sn_turns_away : (Str.ofString "turns" = Str.ofString "away") = False := eq_false (by decide +kernel)
@[simp] theorem sn_turns_post : (Str.ofString "turns" = Str.ofString "post") = False := eq_false (by decide +kernel)
@[simp] theorem sn_turns_first : (Str.ofString "turns" = Str.ofString "first") = False := eq_false (by decide +kernel)
@[simp] theorem sn_turns_rows : (Str.ofString "turns" = Str.ofString "rows") = False := eq_false (by decide +kernel)
@[simp] theorem sn_turns_open : (Str.ofString "turns" = Str.ofString "open") = False := eq_false (by decide +kernel)
@[simp] theorem sn_turns_time : (Str.ofString "turns" = Str.ofString "time") = False := eq_false (by decide +kernel)
@[simp] theorem sn_turns_notes : (Str.ofString "turns" = Str.ofString "notes") = False := eq_false (by decide +kernel)
@[simp] theorem sn_turns_lives : (Str.ofString "turns" = Str.ofString "lives") = False := eq_false (by decide +kernel)
@[simp] theorem sn_turns_all : (Str.ofString "turns" = Str.ofString "all") = False := eq_false (by decide +kernel)
@[simp] theorem sn_turns_note : (Str.ofString "turns" = Str.ofString "note") = False := eq_false (by decide +kernel)
@[simp] theorem sn_notes_look : (Str.ofString "notes" = Str.ofString "look") = False := eq_false (by decide +kernel)
@[simp] theorem sn_notes_put : (Str.ofString "notes" = Str.ofString "put") = False := eq_false (by decide +kernel)
@[simp] theorem sn_notes_add : (Str.ofString "notes" = Str.ofString "add") = False := eq_false (by decide +kernel)
@[simp] theorem sn_notes_move : (Str.ofString "notes" = Str.ofString "move") = False := eq_false (by decide +kernel)
@[simp] theorem sn_notes_draft : (Str.ofString "notes" = Str.ofString "draft") = False := eq_false (by decide +kernel)
@[simp] theorem sn_notes_wait : (Str.ofString "notes" = Str.ofString "wait") = False := eq_false (by decide +kernel)
@[simp] theorem sn_notes_save : (Str.ofString "notes" = Str.ofString "save") = False := eq_false (by decide +kernel)
@[simp] theorem sn_notes_house : (Str.ofString "notes" = Str.ofString "house") = False := eq_false (by decide +kernel)
@[simp] theorem sn_notes_user : (Str.ofString "notes" = Str.ofString "user") = False := eq_false (by decide +kernel)
@[simp] theorem sn_notes_seen : (Str.ofString "notes" = Str.ofString "seen") = False := eq_false (by decide +kernel)
@[simp] theorem sn_notes_done : (Str.ofString "notes" = Str.ofString "done") = False := eq_false (by decide +kernel)
@[simp] theorem sn_notes_back : (Str.ofString "notes" = Str.ofString "back") = False := eq_false (by decide +kernel)
@[simp] theorem sn_notes_given : (Str.ofString "notes" = Str.ofString "given") = False := eq_false (by decide +kernel)
@[simp] theorem sn_notes_writes : (Str.ofString "notes" = Str.ofString "writes") = False := eq_false (by decide +kernel)
@[simp] theorem sn_notes_users : (Str.ofString "notes" = Str.ofString "users") = False := eq_false (by decide +kernel)
@[simp] theorem sn_notes_down : (Str.ofString "notes" = Str.ofString "down") = False := eq_false (by decide +kernel)
@[simp] theorem sn_notes_away : (Str.ofString "notes" = Str.ofString "away") = False := eq_false (by decide +kernel)
@[simp] theorem sn_notes_post : (Str.ofString "notes" = Str.ofString "post") = False := eq_false (by decide +kernel)
@[simp] theorem sn_notes_first : (Str.ofString "notes" = Str.ofString "first") = False := eq_false (by decide +kernel)
@[simp] theorem sn_notes_rows : (Str.ofString "notes" = Str.ofString "rows") = False := eq_false (by decide +kernel)
@[simp] theorem sn_notes_open : (Str.ofString "notes" = Str.ofString "open") = False := eq_false (by decide +kernel)
@[simp] theorem sn_notes_time : (Str.ofString "notes" = Str.ofString "time") = False := eq_false (by decide +kernel)
@[simp] theorem sn_notes_turns : (Str.ofString "notes" = Str.ofString "turns") = False := eq_false (by decide +kernel)
@[simp] theorem sn_notes_lives : (Str.ofString "notes" = Str.ofString "lives") = False := eq_false (by decide +kernel)
@[simp] theorem sn_notes_all : (Str.ofString "notes" = Str.ofString "all") = False := eq_false (by decide +kernel)
@[simp] theorem sn_notes_note : (Str.ofString "notes" = Str.ofString "note") = False := eq_false (by decide +kernel)
@[simp] theorem sn_lives_look : (Str.ofString "lives" = Str.ofString "look") = False := eq_false (by decide +kernel)
@[simp] theorem sn_lives_put : (Str.ofString "lives" = Str.ofString "put") = False := eq_false (by decide +kernel)
@[simp] theorem sn_lives_add : (Str.ofString "lives" = Str.ofString "add") = False := eq_false (by decide +kernel)
@[simp] theorem sn_lives_move : (Str.ofString "lives" = Str.ofString "move") = False := eq_false (by decide +kernel)
@[simp] theorem sn_lives_draft : (Str.ofString "lives" = Str.ofString "draft") = False := eq_false (by decide +kernel)
@[simp] theorem sn_lives_wait : (Str.ofString "lives" = Str.ofString "wait") = False := eq_false (by decide +kernel)
@[simp] theorem sn_lives_save : (Str.ofString "lives" = Str.ofString "save") = False := eq_false (by decide +kernel)
@[simp] theorem sn_lives_house : (Str.ofString "lives" = Str.ofString "house") = False := eq_false (by decide +kernel)
@[simp] theorem sn_lives_user : (Str.ofString "lives" = Str.ofString "user") = False := eq_false (by decide +kernel)
@[simp] theorem sn_lives_seen : (Str.ofString "lives" = Str.ofString "seen") = False := eq_false (by decide +kernel)
@[simp] theorem sn_lives_done : (Str.ofString "lives" = Str.ofString "done") = False := eq_false (by decide +kernel)
@[simp] theorem sn_lives_back : (Str.ofString "lives" = Str.ofString "back") = False := eq_false (by decide +kernel)
@[simp] theorem sn_lives_given : (Str.ofString "lives" = Str.ofString "given") = False := eq_false (by decide +kernel)
@[simp] theorem sn_lives_writes : (Str.ofString "lives" = Str.ofString "writes") = False := eq_false (by decide +kernel)
@[simp] theorem sn_lives_users : (Str.ofString "lives" = Str.ofString "users") = False := eq_false (by decide +kernel)
@[simp] theorem sn_lives_down : (Str.ofString "lives" = Str.ofString "down") = False := eq_false (by decide +kernel)
@[simp] theorem sn_lives_away : (Str.ofString "lives" = Str.ofString "away") = False := eq_false (by decide +kernel)
@[simp] theorem sn_lives_post : (Str.ofString "lives" = Str.ofString "post") = False := eq_false (by decide +kernel)
@[simp] theorem sn_lives_first : (Str.ofString "lives" = Str.ofString "first") = False := eq_false (by decide +kernel)
@[simp] theorem sn_lives_rows : (Str.ofString "lives" = Str.ofString "rows") = False := eq_false (by decide +kernel)
@[simp] theorem sn_lives_open : (Str.ofString "lives" = Str.ofString "open") = False := eq_false (by decide +kernel)
@[simp] theorem sn_lives_time : (Str.ofString "lives" = Str.ofString "time") = False := eq_false (by decide +kernel)
@[simp] theorem sn_lives_turns : (Str.ofString "lives" = Str.ofString "turns") = False := eq_false (by decide +kernel)
@[simp] theorem sn_lives_notes : (Str.ofString "lives" = Str.ofString "notes") = False := eq_false (by decide +kernel)
@[simp] theorem sn_lives_all : (Str.ofString "lives" = Str.ofString "all") = False := eq_false (by decide +kernel)
@[simp] theorem sn_lives_note : (Str.ofString "lives" = Str.ofString "note") = False := eq_false (by decide +kernel)
@[simp] theorem sn_all_look : (Str.ofString "all" = Str.ofString "look") = False := eq_false (by decide +kernel)
@[simp] theorem sn_all_put : (Str.ofString "all" = Str.ofString "put") = False := eq_false (by decide +kernel)
@[simp] theorem sn_all_add : (Str.ofString "all" = Str.ofString "add") = False := eq_false (by decide +kernel)
@[simp] theorem sn_all_move : (Str.ofString "all" = Str.ofString "move") = False := eq_false (by decide +kernel)
@[simp] theorem sn_all_draft : (Str.ofString "all" = Str.ofString "draft") = False := eq_false (by decide +kernel)
@[simp] theorem sn_all_wait : (Str.ofString "all" = Str.ofString "wait") = False := eq_false (by decide +kernel)
@[simp] theorem sn_all_save : (Str.ofString "all" = Str.ofString "save") = False := eq_false (by decide +kernel)
@[simp] theorem sn_all_house : (Str.ofString "all" = Str.ofString "house") = False := eq_false (by decide +kernel)
@[simp] theorem sn_all_user : (Str.ofString "all" = Str.ofString "user") = False := eq_false (by decide +kernel)
@[simp] theorem sn_all_seen : (Str.ofString "all" = Str.ofString "seen") = False := eq_false (by decide +kernel)
@[simp] theorem sn_all_done : (Str.ofString "all" = Str.ofString "done") = False := eq_false (by decide +kernel)
@[simp] theorem sn_all_back : (Str.ofString "all" = Str.ofString "back") = False := eq_false (by decide +kernel)
@[simp] theorem sn_all_given : (Str.ofString "all" = Str.ofString "given") = False := eq_false (by decide +kernel)
@[simp] theorem sn_all_writes : (Str.ofString "all" = Str.ofString "writes") = False := eq_false (by decide +kernel)
@[simp] theorem sn_all_users : (Str.ofString "all" = Str.ofString "users") = False := eq_false (by decide +kernel)
@[simp] theorem sn_all_down : (Str.ofString "all" = Str.ofString "down") = False := eq_false (by decide +kernel)
@[simp] theorem sn_all_away : (Str.ofString "all" = Str.ofString "away") = False := eq_false (by decide +kernel)
@[simp] theorem sn_all_post : (Str.ofString "all" = Str.ofString "post") = False := eq_false (by decide +kernel)
@[simp] theorem sn_all_first : (Str.ofString "all" = Str.ofString "first") = False := eq_false (by decide +kernel)
@[simp] theorem sn_all_rows : (Str.ofString "all" = Str.ofString "rows") = False := eq_false (by decide +kernel)
@[simp] theorem sn_all_open : (Str.ofString "all" = Str.ofString "open") = False := eq_false (by decide +kernel)
@[simp] theorem sn_all_time : (Str.ofString "all" = Str.ofString "time") = False := eq_false (by decide +kernel)
@[simp] theorem sn_all_turns : (Str.ofString "all" = Str.ofString "turns") = False := eq_false (by decide +kernel)
@[simp] theorem sn_all_notes : (Str.ofString "all" = Str.ofString "notes") = False := eq_false (by decide +kernel)
@[simp] theorem sn_all_lives : (Str.ofString "all" = Str.ofString "lives") = False := eq_false (by decide +kernel)
@[simp] theorem sn_all_note : (Str.ofString "all" = Str.ofString "note") = False := eq_false (by decide +kernel)
@[simp] theorem sn_note_look : (Str.ofString "note" = Str.ofString "look") = False := eq_false (by decide +kernel)
@[simp] theorem sn_note_put : (Str.ofString "note" = Str.ofString "put") = False := eq_false (by decide +kernel)
@[simp] theorem sn_note_add : (Str.ofString "note" = Str.ofString "add") = False := eq_false (by decide +kernel)
@[simp] theorem sn_note_move : (Str.ofString "note" = Str.ofString "move") = False := eq_false (by decide +kernel)
@[simp] theorem sn_note_draft : (Str.ofString "note" = Str.ofString "draft") = False := eq_false (by decide +kernel)
@[simp] theorem sn_note_wait : (Str.ofString "note" = Str.ofString "wait") = False := eq_false (by decide +kernel)
@[simp] theorem sn_note_save : (Str.ofString "note" = Str.ofString "save") = False := eq_false (by decide +kernel)
@[simp] theorem sn_note_house : (Str.ofString "note" = Str.ofString "house") = False := eq_false (by decide +kernel)
@[simp] theorem sn_note_user : (Str.ofString "note" = Str.ofString "user") = False := eq_false (by decide +kernel)
@[simp] theorem sn_note_seen : (Str.ofString "note" = Str.ofString "seen") = False := eq_false (by decide +kernel)
@[simp] theorem sn_note_done : (Str.ofString "note" = Str.ofString "done") = False := eq_false (by decide +kernel)
@[simp] theorem sn_note_back : (Str.ofString "note" = Str.ofString "back") = False := eq_false (by decide +kernel)
@[simp] theorem sn_note_given : (Str.ofString "note" = Str.ofString "given") = False := eq_false (by decide +kernel)
@[simp] theorem sn_note_writes : (Str.ofString "note" = Str.ofString "writes") = False := eq_false (by decide +kernel)
@[simp] theorem sn_note_users : (Str.ofString "note" = Str.ofString "users") = False := eq_false (by decide +kernel)
@[simp] theorem sn_note_down : (Str.ofString "note" = Str.ofString "down") = False := eq_false (by decide +kernel)
@[simp] theorem sn_note_away : (Str.ofString "note" = Str.ofString "away") = False := eq_false (by decide +kernel)
@[simp] theorem sn_note_post : (Str.ofString "note" = Str.ofString "post") = False := eq_false (by decide +kernel)
@[simp] theorem sn_note_first : (Str.ofString "note" = Str.ofString "first") = False := eq_false (by decide +kernel)
@[simp] theorem sn_note_rows : (Str.ofString "note" = Str.ofString "rows") = False := eq_false (by decide +kernel)
@[simp] theorem sn_note_open : (Str.ofString "note" = Str.ofString "open") = False := eq_false (by decide +kernel)
@[simp] theorem sn_note_time : (Str.ofString "note" = Str.ofString "time") = False := eq_false (by decide +kernel)
@[simp] theorem sn_note_turns : (Str.ofString "note" = Str.ofString "turns") = False := eq_false (by decide +kernel)
@[simp] theorem sn_note_notes : (Str.ofString "note" = Str.ofString "notes") = False := eq_false (by decide +kernel)
@[simp] theorem sn_note_lives : (Str.ofString "note" = Str.ofString "lives") = False := eq_false (by decide +kernel)
@[simp] theorem sn_note_all : (Str.ofString "note" = Str.ofString "all") = False := eq_false (by decide +kernel)
section
variable {S : Store}
@[simp] theorem gEqS {a b : Str} (ha : PyData.strOk a = true) (hb : PyData.strOk b = true) : gEq S (.v (.str a)) (.v (.str b)) = some (.v (.bl (decide (a = b)))) := by
  rw [gEqV (by simpa [okN] using ha) (by simpa [okN] using hb), eqD_str]
@[simp] theorem gNeS {a b : Str} (ha : PyData.strOk a = true) (hb : PyData.strOk b = true) : gNe S (.v (.str a)) (.v (.str b)) = some (.v (.bl (!decide (a = b)))) := by
  rw [gNeV (by simpa [okN] using ha) (by simpa [okN] using hb), eqD_str]
@[simp] theorem gInS2 {a b c : Str} : gIn S (.v (.str a)) (.v (.tup [.str b, .str c])) = some (.v (.bl (decide (b = a) || decide (c = a)))) := by
  simp [gIn, inR, R.dicR, R.lseq, R.tseq, flatOf, flatsOf, toPDs, toPD, PyData.eqv]
  rfl
@[simp] theorem gNotInS2 {a b c : Str} : gNotIn S (.v (.str a)) (.v (.tup [.str b, .str c])) = some (.v (.bl (!(decide (b = a) || decide (c = a))))) := by
  have h := gInS2 (S := S) (a := a) (b := b) (c := c)
  unfold gIn at h
  unfold gNotIn
  cases q : inR S (.v (.str a)) (.v (.tup [.str b, .str c])) with
  | none => rw [q] at h; cases h
  | some k => rw [q] at h; cases h; rfl
@[simp] theorem gInC4 {a b c d e : Str} : gIn S (.v (.str a)) (.c [.str b, .str c, .str d, .str e]) = some (.v (.bl (decide (b = a) || (decide (c = a) || (decide (d = a) || decide (e = a)))))) := by
  simp [gIn, inR, R.dicR, R.lseq, R.tseq, flatOf, flatsOf, toPDs, toPD, PyData.eqv]
  rfl
end
end Ev

set_option Elab.async false
set_option linter.all false
set_option maxRecDepth 100000
set_option maxHeartbeats 4000000
/-! Draws. -/
namespace Ev
open PySem L2
/-- dice: two numbers, then great ones -/
def Dc (xs : List D) : Prop := ∃ (a b : Int) (r : List Int), xs = .int a :: .int b :: r.map D.int ∧ 0 ≤ a ∧ 0 ≤ b ∧ ∀ x ∈ r, 0 < x
theorem off_ok {xs : List D} (T : Store) (m : Int) (hd : Dc xs) (hm : 0 < m) (hm2 : m < 1073741824) :
    ∃ r xs', ev__law_off [.v (.ob 0), .v (.int m)] (.lst xs :: T) = some (.v (.int r), .lst xs' :: T) ∧ 0 ≤ r ∧ r < m ∧ Dc xs' := by
  obtain ⟨a, b, r, rfl, ha, hb, hr⟩ := hd
  unfold ev__law_off bo__law_off
  rw [runOf_ (ss := [.v (.ob 0), .v (.int m)]) (by simp) (by simp)]
  have pos : ∀ (b : Int) (r : List Int), 0 < b → (∀ x ∈ r, 0 < x) → 0 ≤ b % m ∧ b % m < m ∧ Dc (.int a :: .int (b / m) :: r.map D.int) := fun b r hb hr =>
    ⟨Int.emod_nonneg _ (by omega), Int.emod_lt_of_pos _ hm, a, b / m, r, rfl, ha, Int.ediv_nonneg (by omega) (by omega), hr⟩
  by_cases h0 : b = 0
  · subst h0
    cases r with
    | nil =>
      refine ⟨(a * 48271 + 11) % 2147483647 / 64 % m, .int ((a * 48271 + 11) % 2147483647) :: .int 0 :: [], ?_, Int.emod_nonneg _ (by omega), Int.emod_lt_of_pos _ hm, (a * 48271 + 11) % 2147483647, 0, [], rfl, Int.emod_nonneg _ (by decide), by decide, by simp⟩
      simp [gModI, gFdivI, gMulI, hm, hm2, small64]
    | cons c r =>
      have hc : 0 < c := hr c (by simp)
      obtain ⟨p1, p2, p3⟩ := pos c r hc fun x hx => hr x (by simp [hx])
      have hl : (2 : Int) < ↑r.length + 1 + 1 + 1 := by omega
      refine ⟨c % m, _, ?_, p1, p2, p3⟩
      simp [gModI, gFdivI, gMulI, hm, hm2, small64, hc, hl]
  · have hb' : 0 < b := by omega
    obtain ⟨p1, p2, p3⟩ := pos b r hb' hr
    refine ⟨b % m, _, ?_, p1, p2, p3⟩
    simp [gModI, gFdivI, gMulI, hm, hm2, small64, hb', h0]
theorem some3 {S : Store} : ev__law_some [.v (.int 3)] S = some (.l [.int 0, .int 4, .int 9], S) := by
  unfold ev__law_some bo__law_some
  simp [runOf, eDispGet, eListRg, smallN, cap, R.isVL]
  exact ⟨rfl, rfl⟩
theorem getElem_erase_perm : ∀ {l : List D} {k : Nat} (h : k < l.length), ([l[k]] ++ l.eraseIdx k).Perm l
  | [], k, h => absurd h (by simp)
  | a :: l, 0, h => by simp
  | a :: l, k + 1, h => by
    have hk : k < l.length := by simpa using h
    have ih := getElem_erase_perm (l := l) (k := k) hk
    rw [List.eraseIdx_cons_succ]
    show List.Perm (l[k] :: a :: l.eraseIdx k) (a :: l)
    exact (List.Perm.swap a _ _).trans (ih.cons a)
/-- the loop of a mixing -/
theorem mixed_loop {T : Store} {row : List D} : ∀ (n m : Nat) (left found xs : List D), left.length = n → n < m → found.length + n ≤ 16000000 → okNs 60 left = true → Dc xs →
    ∃ ys xs', whileF (eBin gNe (eVar 2) (eLst [])) bd__law_mixed_1 m [.v (.ob 0), .b row, .l left, .l found] (.lst xs :: T) = some (.next [.v (.ob 0), .b row, .l [], .l ys] (.lst xs' :: T)) ∧ ys.Perm (found ++ left) ∧ Dc xs' := by
  intro n
  induction n with
  | zero =>
    intro m left found xs hl hm hf ho hd
    have e : left = [] := List.length_eq_zero_iff.mp hl
    subst e
    cases m with
    | zero => omega
    | succ m =>
      refine ⟨found, xs, ?_, by simp, hd⟩
      rw [whileF_s]
      simp [gNe_bl (xs := []) (ys := []) (by simp [okNs]) (by simp [okNs]), cap]
  | succ n ih =>
    intro m left found xs hl hm hf ho hd
    cases m with
    | zero => omega
    | succ m =>
      obtain ⟨r, xs1, e1, h1, h2, hd1⟩ := off_ok T (left.length : Int) hd (by omega) (by omega)
      have hr : r = ((r.toNat : Nat) : Int) := by omega
      have hlt : r.toNat < left.length := by omega
      have hx : left[r.toNat]? = some left[r.toNat] := by simp [hlt]
      have hne : left ≠ [] := fun z => by rw [z] at hl; simp at hl
      have ok1 : ∀ (l : List D) (k : Nat), okNs 60 l = true → okNs 60 (l.eraseIdx k) = true := by
        intro l
        induction l with
        | nil => intro k h; simpa using h
        | cons a l ih =>
          intro k h
          rw [okNs, Bool.and_eq_true] at h
          cases k with
          | zero => exact h.2
          | succ k =>
            rw [List.eraseIdx_cons_succ, okNs, Bool.and_eq_true]
            exact ⟨h.1, ih k h.2⟩
      obtain ⟨ys, xs', e2, hp, hd2⟩ := ih m (left.eraseIdx r.toNat) (found ++ [left[r.toNat]]) xs1 (by rw [List.length_eraseIdx, if_pos hlt]; omega) (by omega) (by simp; omega) (ok1 _ _ ho) hd1
      refine ⟨ys, xs', ?_, ?_, hd2⟩
      · rw [whileF_s]
        have ne : eqDs left [] = false := by
          rw [eqDs_nil_r]
          cases left with
          | nil => exact absurd rfl hne
          | cons a l => rfl
        have ix : ixN left.length r = some r.toNat := by
          have q := ixN_nat (n := left.length) (m := r.toNat)
          rw [← hr, if_pos hlt] at q
          exact q
        have hcap : found.length < cap := by show found.length < 16777216; omega
        simp only [eBin_, eVar_, eLst_, eArgs_n, List.getElem?_cons_succ, List.getElem?_cons_zero, rdSl_l, Option.map_some, bnd_s, flats_n, Option.bind_some, List.length_nil, Nat.zero_le, if_true, gNe_bl ho (show okNs 60 [] = true by simp [okNs]), ne, R.bool_bl, iteB_s, Bool.not_false]
        have body : bd__law_mixed_1 [.v (.ob 0), .b row, .l left, .l found] (.lst xs :: T) = some (.next [.v (.ob 0), .b row, .l (left.eraseIdx r.toNat), .l (found ++ [left[r.toNat]])] (.lst xs1 :: T)) := by
          unfold bd__law_mixed_1 sAppPop
          simp [e1, hcap, ix, hx]
          omega
        rw [body]
        exact e2
      · refine hp.trans ?_
        rw [List.append_assoc]
        refine List.Perm.append_left found ?_
        exact getElem_erase_perm hlt
theorem mixed_ok {xs : List D} (T : Store) {row : List D} (ho : okNs 60 row = true) (hl : row.length < 1000) (hd : Dc xs) :
    ∃ ys xs', ev__law_mixed [.v (.ob 0), .l row] (.lst xs :: T) = some (.l ys, .lst xs' :: T) ∧ ys.Perm row ∧ Dc xs' := by
  obtain ⟨ys, xs', e, hp, hd'⟩ := mixed_loop (T := T) (row := row) row.length 100000 row [] xs rfl (by omega) (by simp; omega) ho hd
  refine ⟨ys, xs', ?_, by simpa using hp, hd'⟩
  unfold ev__law_mixed bo__law_mixed
  rw [runOf_ (ss := [.v (.ob 0), .b row]) (by simp) (by simp)]
  simp [cap, e]

/-! ### deeds -/
inductive Deed where
  | look (fs : List Nat)
  | put (ps : List (Nat × Int))
  | add (f : Nat) (w : Int)
  | move (a b : Nat) (m : Int)
def fD (f : Nat) : D := .int (f : Nat)
def pD (p : Nat × Int) : D := .tup [.int (p.1 : Nat), .int p.2]
def Deed.d : Deed → D
  | .look fs => .tup [.str "look", .tup (fs.map fD)]
  | .put ps => .tup [.str "put", .tup (ps.map pD)]
  | .add f w => .tup [.str "add", .int (f : Nat), .int w]
  | .move a b m => .tup [.str "move", .int (a : Nat), .int (b : Nat), .int m]
/-- rising files, one to four -/
def Ris (fs : List Nat) : Prop := fs.Pairwise (· < ·) ∧ 0 < fs.length ∧ fs.length ≤ 4 ∧ ∀ f ∈ fs, f < 10
def Wo (w : Int) : Prop := 0 ≤ w ∧ w < 1000
def Deed.Ok : Deed → Prop
  | .look fs => Ris fs
  | .put ps => Ris (ps.map (·.1)) ∧ ∀ p ∈ ps, Wo p.2
  | .add f w => f < 10 ∧ Wo w
  | .move a b m => a < 10 ∧ b < 10 ∧ a ≠ b ∧ Wo m
/-- its files are of these three -/
def in3 (f : Nat) : Prop := f = 0 ∨ f = 4 ∨ f = 9
def Deed.F3 : Deed → Prop
  | .look _ => True
  | .put ps => ∀ p ∈ ps, in3 p.1
  | .add f _ => in3 f
  | .move a b _ => in3 a ∧ in3 b
theorem rise_of {fs : List Int} (hs : fs.Pairwise (· ≤ ·)) (hn : fs.Nodup) : fs.Pairwise (· < ·) := by
  induction fs with
  | nil => exact .nil
  | cons a l ih =>
    rw [List.pairwise_cons] at hs ⊢
    rw [List.nodup_cons] at hn
    refine ⟨fun x hx => ?_, ih hs.2 hn.2⟩
    have h1 := hs.1 x hx
    have h2 : a ≠ x := fun z => hn.1 (z ▸ hx)
    omega
theorem toNat_map : ∀ {l : List Int}, (∀ x ∈ l, 0 ≤ x) → (l.map Int.toNat).map fD = l.map D.int
  | [], _ => rfl
  | a :: l, h => by
    have ha := h a (by simp)
    have ih := toNat_map (l := l) fun x hx => h x (by simp [hx])
    rw [List.map_cons, List.map_cons, List.map_cons, ih]
    congr 1
    show D.int ((a.toNat : Nat) : Int) = D.int a
    congr 1
    omega
theorem files_ok {xs : List D} (T : Store) (hd : Dc xs) :
    ∃ fs xs', ev__law_files [.v (.ob 0), .v (.int 3)] (.lst xs :: T) = some (.v (.tup (fs.map fD)), .lst xs' :: T) ∧ Ris fs ∧ (∀ f ∈ fs, in3 f) ∧ Dc xs' := by
  obtain ⟨ys, x1, e1, hp, hd1⟩ := mixed_ok T (row := [.int 0, .int 4, .int 9]) (by simp [okNs, okN]) (by simp) hd
  obtain ⟨r, x2, e2, h1, h2, hd2⟩ := off_ok T 3 hd1 (by decide) (by decide)
  -- the mixed ones are numbers
  obtain ⟨ns, rfl, hns⟩ : ∃ ns : List Int, ys = ns.map D.int ∧ ns.Perm [0, 4, 9] := by
    have hp' : ys.Perm (([0, 4, 9] : List Int).map D.int) := hp
    have key : ∀ (l : List Int) (ys : List D), ys.Perm (l.map D.int) → ∃ ns : List Int, ys = ns.map D.int ∧ ns.Perm l := by
      intro l ys h
      have all : ∀ y ∈ ys, ∃ n : Int, y = .int n := fun y hy => by
        obtain ⟨n, _, e⟩ := List.mem_map.mp (h.mem_iff.mp hy)
        exact ⟨n, e.symm⟩
      have : ∃ ns : List Int, ys = ns.map D.int := by
        clear h
        induction ys with
        | nil => exact ⟨[], rfl⟩
        | cons y ys ih =>
          obtain ⟨n, rfl⟩ := all y (by simp)
          obtain ⟨ns, e⟩ := ih fun z hz => all z (by simp [hz])
          exact ⟨n :: ns, by rw [e]; rfl⟩
      obtain ⟨ns, rfl⟩ := this
      refine ⟨ns, rfl, ?_⟩
      have q := h.map (fun d => match d with | D.int i => i | _ => 0)
      simpa [List.map_map, Function.comp_def] using q
    exact key _ _ hp'
  have hsub : List.Sublist (ns.take (1 + r).toNat) ns := List.take_sublist _ _
  have hnd : ns.Nodup := hns.nodup_iff.mpr (by decide)
  have hmem : ∀ x ∈ ns, x = 0 ∨ x = 4 ∨ x = 9 := fun x hx => by simpa using hns.mem_iff.mp hx
  have hlen : ns.length = 3 := hns.length_eq
  have hso : ∀ x ∈ sortI (ns.take (1 + r).toNat), x = 0 ∨ x = 4 ∨ x = 9 := fun x hx => hmem x (hsub.mem ((sortI_perm _).mem_iff.mp hx))
  refine ⟨(sortI (ns.take (1 + r).toNat)).map Int.toNat, x2, ?_, ⟨?_, ?_, ?_, ?_⟩, ?_, hd2⟩
  · unfold ev__law_files bo__law_files
    rw [runOf_ (ss := [.v (.ob 0), .v (.int 3)]) (by simp) (by simp)]
    rw [toNat_map fun x hx => by rcases hso x hx with h | h | h <;> omega]
    have h1r : (0 : Int) ≤ 1 + r := by omega
    have m43 : min (4 : Int) 3 = 3 := rfl
    simp [some3, e1, m43, e2, cut_takeI h1r, ← List.map_take]
  · have hs := rise_of (sortI_sorted (ns.take (1 + r).toNat)) ((sortI_perm _).nodup_iff.mpr (hsub.nodup hnd))
    rw [List.pairwise_map]
    refine hs.imp_of_mem fun {a b} ha hb hab => ?_
    have := hso a ha
    have := hso b hb
    omega
  · rw [List.length_map, (sortI_perm _).length_eq, List.length_take]
    omega
  · rw [List.length_map, (sortI_perm _).length_eq, List.length_take]
    omega
  · intro f hf
    obtain ⟨x, hx, rfl⟩ := List.mem_map.mp hf
    have := hso x hx
    omega
  · intro f hf
    obtain ⟨x, hx, rfl⟩ := List.mem_map.mp hf
    rcases hso x hx with rfl | rfl | rfl
    · exact .inl rfl
    · exact .inr (.inl rfl)
    · exact .inr (.inr rfl)

theorem putComp (T : Store) {k w : Int} (hw : Wo w) : ∀ (fs : List Nat) (xs : List D), Dc xs →
    ∃ ps : List (Nat × Int), ∃ xs', compF (tgName 4) eTrue (eTup [eVar 4, eBin gAdd (eCall ev__law_off [] [eVar 0, eLit (.int 5)]) (eBin gMod (eVar 3) (eLit (.int 996)))]) .no [.v (.ob 0), .v (.int 3), .v (.int k), .v (.int w), .no, .no] (fs.map fD) (.lst xs :: T) = some (ps.map pD, .lst xs' :: T) ∧
      ps.map (·.1) = fs ∧ (∀ p ∈ ps, Wo p.2) ∧ Dc xs'
  | [], xs, hd => ⟨[], xs, rfl, rfl, by simp, hd⟩
  | f :: fs, xs, hd => by
    obtain ⟨r, x1, e1, h1, h2, hd1⟩ := off_ok T 5 hd (by decide) (by decide)
    obtain ⟨ps, x2, e2, g1, g2, hd2⟩ := putComp T (k := k) hw fs x1 hd1
    have hm : 0 ≤ w % 996 ∧ w % 996 < 996 := ⟨Int.emod_nonneg _ (by decide), Int.emod_lt_of_pos _ (by decide)⟩
    refine ⟨(f, r + w % 996) :: ps, x2, ?_, by simp [g1], ?_, hd2⟩
    · rw [List.map_cons, compF_c]
      have hm0 : gMod (.lst x1 :: T) (.v (.int w)) (.v (.int 996)) = some (.v (.int (w % 996))) := gModI (by decide)
      simp [fD, e1, hm0, e2, cap, pD]
    · intro p hp
      rcases List.mem_cons.mp hp with rfl | hp
      · exact ⟨by show 0 ≤ r + w % 996; omega, by show r + w % 996 < 1000; omega⟩
      · exact g2 p hp
theorem deed_ok {xs : List D} (T : Store) (hd : Dc xs) :
    ∃ dd xs', ev__law_deed [.v (.ob 0), .v (.int 3)] (.lst xs :: T) = some (.v (Deed.d dd), .lst xs' :: T) ∧ dd.Ok ∧ dd.F3 ∧ Dc xs' := by
  obtain ⟨k, x1, e1, k1, k2, hd1⟩ := off_ok T 10 hd (by decide) (by decide)
  unfold ev__law_deed bo__law_deed
  rw [runOf_ (ss := [.v (.ob 0), .v (.int 3)]) (by simp) (by simp)]
  by_cases hk5 : k < 5
  · obtain ⟨fs, x2, e2, hr, h3, hd2⟩ := files_ok T hd1
    refine ⟨.look fs, x2, ?_, hr, trivial, hd2⟩
    simp [e1, hk5, e2, cap, Deed.d]
  · obtain ⟨a, x2, e2, a1, a2, hd2⟩ := off_ok T 6 hd1 (by decide) (by decide)
    obtain ⟨b, x3, e3, b1, b2, hd3⟩ := off_ok T 1000 hd2 (by decide) (by decide)
    obtain ⟨c, x4, e4, c1, c2, hd4⟩ := off_ok T 2 hd3 (by decide) (by decide)
    obtain ⟨e, x5, e5, ee1, ee2, hd5⟩ := off_ok T 4 hd4 (by decide) (by decide)
    -- the worth
    obtain ⟨w, hw, pick⟩ : ∃ w, Wo w ∧ ∀ ρ : Env, ρ[0]? = some (.v (.ob 0)) → (ePick [eCall ev__law_off [] [eVar 0, eLit (.int 6)], ePick [eLit (.int 700), eCall ev__law_off [] [eVar 0, eLit (.int 1000)]] (eCall ev__law_off [] [eVar 0, eLit (.int 2)])] (eBlt gInt [eBin gEq (eCall ev__law_off [] [eVar 0, eLit (.int 4)]) (eLit (.int 0))])) ρ (.lst x1 :: T) = some (.v (.int w), .lst x5 :: T) := by
      have hc : c = 0 ∨ c = 1 := by omega
      by_cases he : e = 0
      · rcases hc with rfl | rfl
        · exact ⟨700, ⟨by decide, by decide⟩, fun ρ h => by simp [h, e2, e3, e4, e5, he, cap]⟩
        · exact ⟨b, ⟨b1, b2⟩, fun ρ h => by simp [h, e2, e3, e4, e5, he, cap]⟩
      · rcases hc with rfl | rfl
        · exact ⟨a, ⟨a1, by omega⟩, fun ρ h => by simp [h, e2, e3, e4, e5, he, cap]⟩
        · exact ⟨a, ⟨a1, by omega⟩, fun ρ h => by simp [h, e2, e3, e4, e5, he, cap]⟩
    by_cases hk7 : k < 7
    · obtain ⟨fs, x6, e6, hr, h3, hd6⟩ := files_ok T hd5
      obtain ⟨ps, x7, e7, g1, g2, hd7⟩ := putComp T (k := k) hw fs x6 hd6
      refine ⟨.put ps, x7, ?_, ⟨by rw [g1]; exact hr, g2⟩, fun p hp => h3 p.1 (by rw [← g1]; exact List.mem_map.mpr ⟨p, hp, rfl⟩), hd7⟩
      have hfc : fs.length ≤ 16777216 := Nat.le_trans hr.2.2.1 (by decide)
      simp [-ePick_, e1, hk5, pick, hk7, e6, wipeE, e7, hfc, cap, Deed.d]
    · by_cases hk9 : k < 9
      · obtain ⟨f, x6, e6, f1, f2, hd6⟩ := off_ok T 3 hd5 (by decide) (by decide)
        obtain ⟨g, x7, e7, g1, g2, hd7⟩ := off_ok T 4 hd6 (by decide) (by decide)
        obtain ⟨h, x8, e8, h1, h2, hd8⟩ := off_ok T 4 hd7 (by decide) (by decide)
        obtain ⟨F, hF, hF3, eF⟩ : ∃ F : Nat, F < 10 ∧ in3 F ∧ atI [D.int 0, D.int 4, D.int 9] f = some (.int (F : Nat)) := by
          have hf : f = 0 ∨ f = 1 ∨ f = 2 := by omega
          rcases hf with rfl | rfl | rfl
          · exact ⟨0, by decide, .inl rfl, rfl⟩
          · exact ⟨4, by decide, .inr (.inl rfl), rfl⟩
          · exact ⟨9, by decide, .inr (.inr rfl), rfl⟩
        by_cases hh : h = 0
        · refine ⟨.add F w, x8, ?_, ⟨hF, hw⟩, hF3, hd8⟩
          simp [-ePick_, e1, hk5, pick, hk7, hk9]
          simp [some3, e6, eF, e7, e8, hh, cap, Deed.d]
        · refine ⟨.add F (1 + g), x8, ?_, ⟨hF, by show 0 ≤ 1 + g; omega, by show 1 + g < 1000; omega⟩, hF3, hd8⟩
          simp [-ePick_, e1, hk5, pick, hk7, hk9]
          simp [some3, e6, eF, e7, e8, hh, cap, Deed.d]
      · obtain ⟨ys, x6, e6, hp, hd6⟩ := mixed_ok T (row := [.int 0, .int 4, .int 9]) (by simp [okNs, okN]) (by simp) hd5
        obtain ⟨g, x7, e7, g1, g2, hd7⟩ := off_ok T 5 hd6 (by decide) (by decide)
        obtain ⟨h, x8, e8, h1, h2, hd8⟩ := off_ok T 4 hd7 (by decide) (by decide)
        obtain ⟨A, B, r, rfl, hA, hB, hAB, hA3, hB3⟩ : ∃ (A B : Nat) (r : List D), ys = .int (A : Nat) :: .int (B : Nat) :: r ∧ A < 10 ∧ B < 10 ∧ A ≠ B ∧ in3 A ∧ in3 B := by
          have hl : ys.length = 3 := hp.length_eq
          match ys, hl, hp with
          | [a, b, c], _, hp =>
            have nd : [a, b, c].Nodup := hp.nodup_iff.mpr (by decide)
            have ma : a = .int 0 ∨ a = .int 4 ∨ a = .int 9 := by simpa using hp.mem_iff.mp (show a ∈ [a, b, c] by simp)
            have mb : b = .int 0 ∨ b = .int 4 ∨ b = .int 9 := by simpa using hp.mem_iff.mp (show b ∈ [a, b, c] by simp)
            have ab : a ≠ b := fun z => by subst z; simp at nd
            have conv : ∀ x : D, x = .int 0 ∨ x = .int 4 ∨ x = .int 9 → ∃ X : Nat, X < 10 ∧ in3 X ∧ x = .int (X : Nat) := fun x h => by
              rcases h with rfl | rfl | rfl
              · exact ⟨0, by decide, .inl rfl, rfl⟩
              · exact ⟨4, by decide, .inr (.inl rfl), rfl⟩
              · exact ⟨9, by decide, .inr (.inr rfl), rfl⟩
            obtain ⟨A, hA, hA3, rfl⟩ := conv a ma
            obtain ⟨B, hB, hB3, rfl⟩ := conv b mb
            exact ⟨A, B, [c], rfl, hA, hB, fun z => ab (by rw [z]), hA3, hB3⟩
        by_cases hh : h = 0
        · refine ⟨.move A B w, x8, ?_, ⟨hA, hB, hAB, hw⟩, ⟨hA3, hB3⟩, hd8⟩
          simp [-ePick_, e1, hk5, pick, hk7, hk9]
          simp [some3, e6, e7, e8, hh, cap, Deed.d]
        · refine ⟨.move A B g, x8, ?_, ⟨hA, hB, hAB, g1, by omega⟩, ⟨hA3, hB3⟩, hd8⟩
          simp [-ePick_, e1, hk5, pick, hk7, hk9]
          simp [some3, e6, e7, e8, hh, cap, Deed.d]
end Ev

set_option Elab.async false
set_option linter.all false
set_option maxRecDepth 100000
set_option maxHeartbeats 4000000
/-! Deeds done, by the program and by the law. -/
namespace Ev
open PySem L2
def gt (ws : List Int) (f : Nat) : Int := ws.getD f 0
def tW (ws : List Int) : D := .tup (ws.map D.int)
def Deed.run (ws : List Int) : Deed → D × List Int
  | .look fs => (.tup (fs.map fun f => .int (gt ws f)), ws)
  | .put ps => (.tup (ps.map fun p => .int (gt ws p.1)), ps.foldl (fun a p => a.set p.1 p.2) ws)
  | .add f w => (.int ((gt ws f + w) % 1000), ws.set f ((gt ws f + w) % 1000))
  | .move a b m => if gt ws a < m ∨ 1000 ≤ gt ws b + m then (.bl false, ws) else (.bl true, (ws.set a (gt ws a - m)).set b (gt ws b + m))
theorem gt_at {ws : List Int} {f : Nat} (h : f < ws.length) : atI (ws.map D.int) (f : Nat) = some (.int (gt ws f)) := by
  rw [atI_nat, List.getElem?_map]
  simp [gt, h]
theorem ix_at {n f : Nat} (h : f < n) : ixN n (f : Nat) = some f := by rw [ixN_nat, if_pos h]
theorem map_set {ws : List Int} {f : Nat} {w : Int} : (ws.map D.int).set f (.int w) = (ws.set f w).map D.int := by rw [List.map_set]
theorem fold_len : ∀ (ps : List (Nat × Int)) (ws : List Int), (ps.foldl (fun a p => a.set p.1 p.2) ws).length = ws.length
  | [], _ => rfl
  | p :: ps, ws => by rw [List.foldl_cons, fold_len ps, List.length_set]
theorem run_len {ws : List Int} {d : Deed} : (d.run ws).2.length = ws.length := by
  cases d with
  | look fs => rfl
  | put ps => exact fold_len ps ws
  | add f w => simp [Deed.run]
  | move a b m => by_cases h : gt ws a < m ∨ 1000 ≤ gt ws b + m <;> simp [Deed.run, h]
/-- the loop of a put -/
theorem putLoop1 {S : Store} {A B C : Sl} : ∀ (ps : List (Nat × Int)) (ws : List Int) (x y : Sl), (∀ p ∈ ps, p.1 < ws.length) →
    ∃ x' y', loopF (tgTup [4, 5]) bd__law_done_1 .no (ps.map pD) [A, B, .l (ws.map D.int), C, x, y] S = some (.next [A, B, .l ((ps.foldl (fun a p => a.set p.1 p.2) ws).map D.int), C, x', y'] S)
  | [], ws, x, y, _ => ⟨x, y, rfl⟩
  | p :: ps, ws, x, y, h => by
    obtain ⟨x', y', ih⟩ := putLoop1 (S := S) (A := A) (B := B) (C := C) ps (ws.set p.1 p.2) (.v (.int (p.1 : Nat))) (.v (.int p.2)) fun q hq => by rw [List.length_set]; exact h q (by simp [hq])
    refine ⟨x', y', ?_⟩
    rw [List.map_cons, loopF_c]
    have hp := h p (by simp)
    have body : bd__law_done_1 [A, B, .l (ws.map D.int), C, .v (.int (p.1 : Nat)), .v (.int p.2)] S = some (.next [A, B, .l ((ws.set p.1 p.2).map D.int), C, .v (.int (p.1 : Nat)), .v (.int p.2)] S) := by
      unfold bd__law_done_1
      simp [-List.map_set, ix_at hp, map_set]
    simp [-List.map_set, pD, body, ih]
theorem law_done_ok {S : Store} {ws : List Int} {d : Deed} (hl : ws.length = 10) (hd : d.Ok) : ev__law_done [.v (tW ws), .v d.d] S = some (.v (.tup [(d.run ws).1, tW (d.run ws).2]), S) := by
  unfold ev__law_done bo__law_done
  rw [runOf_ (ss := [.v (tW ws), .v d.d]) (by simp) (by simp)]
  cases d with
  | look fs =>
    have hf : ∀ f ∈ fs, f < ws.length := fun f h => by rw [hl]; exact hd.2.2.2 f h
    have hc : fs.length ≤ 16777216 := Nat.le_trans hd.2.2.1 (by decide)
    have cm := comp_map (S := S) (ρ := [.v (tW ws), .v (Deed.look fs).d, .l (ws.map D.int), .no, .no, .no]) (tg := tgName 4) (fe := eBin gIx (eVar 2) (eVar 4)) fD (fun f => .int (gt ws f)) (xs := fs) fun f h => ⟨_, rfl, by simp [fD, gt_at (hf f h)]⟩
    simp [tW, Deed.d, Deed.run, wipeE, cap, hc] at cm ⊢
    simp [cm, cap]
  | put ps =>
    have hf : ∀ p ∈ ps, p.1 < ws.length := fun p h => by rw [hl]; exact hd.1.2.2.2 p.1 (List.mem_map.mpr ⟨p, h, rfl⟩)
    have hc : ps.length ≤ 16777216 := by
      have := hd.1.2.2.1
      rw [List.length_map] at this
      omega
    have cm := comp_map (S := S) (ρ := [.v (tW ws), .v (Deed.put ps).d, .l (ws.map D.int), .no, .no, .no]) (tg := tgTup [4, 5]) (fe := eBin gIx (eVar 2) (eVar 4)) pD (fun p => .int (gt ws p.1)) (xs := ps) fun p h => ⟨_, rfl, by simp [gt_at (hf p h)]⟩
    obtain ⟨x', y', lp⟩ := putLoop1 (S := S) (A := .v (tW ws)) (B := .v (Deed.put ps).d) (C := .v (.tup (ps.map fun p => .int (gt ws p.1)))) ps ws .no .no hf
    simp [tW, Deed.d, Deed.run, wipeE, cap, hc] at cm lp ⊢
    simp [cm, lp, cap]
  | add f w =>
    have hf : f < ws.length := by rw [hl]; exact hd.1
    have hm : ∀ i : Int, gMod S (.v (.int i)) (.v (.int 1000)) = some (.v (.int (i % 1000))) := fun i => gModI (by decide)
    have g2 := gt_at (ws := ws.set f ((gt ws f + w) % 1000)) (f := f) (by simpa using hf)
    have g3 : gt (ws.set f ((gt ws f + w) % 1000)) f = (gt ws f + w) % 1000 := by simp [gt, hf]
    rw [g3] at g2
    simp [-List.map_set, tW, Deed.d, Deed.run, cap, gt_at hf, hm, ix_at hf, map_set, g2]
  | move a b m =>
    obtain ⟨ha, hb, hab, hm⟩ := hd
    rw [← hl] at ha hb
    have g2 := gt_at (ws := ws.set a (gt ws a - m)) (f := b) (by simpa using hb)
    have g3 : gt (ws.set a (gt ws a - m)) b = gt ws b := by
      unfold gt
      simp [List.getElem?_set_ne hab]
    rw [g3] at g2
    have i2 : ixN (ws.set a (gt ws a - m)).length (b : Nat) = some b := ix_at (by simpa using hb)
    by_cases h1 : gt ws a < m
    · simp [tW, Deed.d, Deed.run, cap, gt_at ha, gt_at hb, h1]
    · by_cases h2 : 1000 ≤ gt ws b + m
      · have h3 : 999 < gt ws b + m := by omega
        simp [tW, Deed.d, Deed.run, cap, gt_at ha, gt_at hb, h1, h2, h3]
      · have h3 : ¬ 999 < gt ws b + m := by omega
        simp [-List.map_set, tW, Deed.d, Deed.run, cap, gt_at ha, gt_at hb, h1, h2, h3, ix_at ha, map_set, g2, ix_at hb]
/-- .. of the program -/
theorem putLoop2 {S : Store} {A B C D' E F : Sl} : ∀ (ps : List (Nat × Int)) (ws : List Int) (x y : Sl), (∀ p ∈ ps, p.1 < ws.length) →
    ∃ x' y', loopF (tgTup [7, 8]) bd_done_1 .no (ps.map pD) [A, B, .l (ws.map D.int), C, D', E, F, x, y] S = some (.next [A, B, .l ((ps.foldl (fun a p => a.set p.1 p.2) ws).map D.int), C, D', E, F, x', y'] S)
  | [], ws, x, y, _ => ⟨x, y, rfl⟩
  | p :: ps, ws, x, y, h => by
    obtain ⟨x', y', ih⟩ := putLoop2 (S := S) (A := A) (B := B) (C := C) (D' := D') (E := E) (F := F) ps (ws.set p.1 p.2) (.v (.int (p.1 : Nat))) (.v (.int p.2)) fun q hq => by rw [List.length_set]; exact h q (by simp [hq])
    refine ⟨x', y', ?_⟩
    rw [List.map_cons, loopF_c]
    have hp := h p (by simp)
    have body : bd_done_1 [A, B, .l (ws.map D.int), C, D', E, F, .v (.int (p.1 : Nat)), .v (.int p.2)] S = some (.next [A, B, .l ((ws.set p.1 p.2).map D.int), C, D', E, F, .v (.int (p.1 : Nat)), .v (.int p.2)] S) := by
      unfold bd_done_1
      simp [-List.map_set, ix_at hp, map_set]
    simp [-List.map_set, pD, body, ih]
theorem done_ok {S : Store} {ws : List Int} {d : Deed} (hl : ws.length = 10) (hd : d.Ok) : ev_done [.v (tW ws), .v d.d] S = some (.v (.tup [(d.run ws).1, tW (d.run ws).2]), S) := by
  unfold ev_done bo_done
  rw [runOf_ (ss := [.v (tW ws), .v d.d]) (by simp) (by simp)]
  cases d with
  | look fs =>
    have hf : ∀ f ∈ fs, f < ws.length := fun f h => by rw [hl]; exact hd.2.2.2 f h
    have hc : fs.length ≤ 16777216 := Nat.le_trans hd.2.2.1 (by decide)
    have cm := comp_map (S := S) (ρ := [.v (tW ws), .v (Deed.look fs).d, .l (ws.map D.int), .no, .no, .no, .no, .no, .no]) (tg := tgName 7) (fe := eBin gIx (eVar 0) (eVar 7)) fD (fun f => .int (gt ws f)) (xs := fs) fun f h => ⟨_, rfl, by simp [fD, tW, gt_at (hf f h)]⟩
    simp [tW, Deed.d, Deed.run, wipeE, cap, hc] at cm ⊢
    simp [cm, cap]
  | put ps =>
    have hf : ∀ p ∈ ps, p.1 < ws.length := fun p h => by rw [hl]; exact hd.1.2.2.2 p.1 (List.mem_map.mpr ⟨p, h, rfl⟩)
    have hc : ps.length ≤ 16777216 := by
      have := hd.1.2.2.1
      rw [List.length_map] at this
      omega
    obtain ⟨x', y', lp⟩ := putLoop2 (S := S) (A := .v (tW ws)) (B := .v (Deed.put ps).d) (C := .no) (D' := .no) (E := .no) (F := .no) ps ws .no .no hf
    have cm := comp_map (S := S) (ρ := [.v (tW ws), .v (Deed.put ps).d, .l ((ps.foldl (fun a p => a.set p.1 p.2) ws).map D.int), .no, .no, .no, .no, .no, .no]) (tg := tgTup [7, 8]) (fe := eBin gIx (eVar 0) (eVar 7)) pD (fun p => .int (gt ws p.1)) (xs := ps) fun p h => ⟨_, rfl, by simp [tW, gt_at (hf p h)]⟩
    simp [tW, Deed.d, Deed.run, wipeE, cap, hc] at cm lp ⊢
    simp [cm, lp, cap, wipeE, hc]
  | add f w =>
    have hf : f < ws.length := by rw [hl]; exact hd.1
    have hm : ∀ i : Int, gMod S (.v (.int i)) (.v (.int 1000)) = some (.v (.int (i % 1000))) := fun i => gModI (by decide)
    have g2 := gt_at (ws := ws.set f ((gt ws f + w) % 1000)) (f := f) (by simpa using hf)
    have g3 : gt (ws.set f ((gt ws f + w) % 1000)) f = (gt ws f + w) % 1000 := by simp [gt, hf]
    rw [g3] at g2
    simp [-List.map_set, tW, Deed.d, Deed.run, cap, gt_at hf, hm, ix_at hf, map_set, g2]
  | move a b m =>
    obtain ⟨ha, hb, hab, hm⟩ := hd
    rw [← hl] at ha hb
    by_cases h1 : gt ws a < m
    · simp [tW, Deed.d, Deed.run, cap, gt_at ha, gt_at hb, h1]
    · by_cases h2 : 1000 ≤ gt ws b + m
      · simp [tW, Deed.d, Deed.run, cap, gt_at ha, gt_at hb, h1, h2]
      · simp [-List.map_set, tW, Deed.d, Deed.run, cap, gt_at ha, gt_at hb, h1, h2, ix_at ha, map_set, ix_at hb]
end Ev

set_option Elab.async false
set_option linter.all false
set_option maxRecDepth 100000
set_option maxHeartbeats 4000000
/-! Histories. -/
namespace Ev
open PySem L2
/-- what a deed may be answered -/
def Ans : Deed → D → Prop
  | .look fs, a => ∃ ns : List Int, a = .tup (ns.map D.int) ∧ ns.length = fs.length ∧ ∀ n ∈ ns, Wo n
  | .put ps, a => ∃ ns : List Int, a = .tup (ns.map D.int) ∧ ns.length = ps.length ∧ ∀ n ∈ ns, Wo n
  | .add _ _, a => ∃ n : Int, a = .int n ∧ Wo n
  | .move _ _ _, a => ∃ b : Bool, a = .bl b
/-- ten worths -/
def Ws (ws : List Int) : Prop := ws.length = 10 ∧ ∀ w ∈ ws, Wo w
theorem gt_wo {ws : List Int} (h : Ws ws) (f : Nat) : Wo (gt ws f) := by
  unfold gt
  rw [List.getD_eq_getElem?_getD]
  cases q : ws[f]? with
  | none => exact ⟨by simp, by simp⟩
  | some w => exact h.2 w (List.mem_of_getElem? q)
theorem set_ws {ws : List Int} (h : Ws ws) {f : Nat} {w : Int} (hw : Wo w) : Ws (ws.set f w) :=
  ⟨by rw [List.length_set]; exact h.1, fun x hx => (List.mem_or_eq_of_mem_set hx).elim (h.2 x) fun e => e ▸ hw⟩
theorem fold_ws : ∀ {ps : List (Nat × Int)} {ws : List Int}, Ws ws → (∀ p ∈ ps, Wo p.2) → Ws (ps.foldl (fun a p => a.set p.1 p.2) ws)
  | [], _, h, _ => h
  | p :: ps, ws, h, hp => by
    rw [List.foldl_cons]
    exact fold_ws (set_ws h (hp p (by simp))) fun q hq => hp q (by simp [hq])
theorem run_ok {ws : List Int} {d : Deed} (h : Ws ws) (hd : d.Ok) : Ans d (d.run ws).1 ∧ Ws (d.run ws).2 := by
  cases d with
  | look fs =>
    refine ⟨⟨fs.map (gt ws), by simp [Deed.run], by simp, fun n hn => ?_⟩, h⟩
    obtain ⟨f, _, rfl⟩ := List.mem_map.mp hn
    exact gt_wo h f
  | put ps =>
    refine ⟨⟨ps.map fun p => gt ws p.1, by simp [Deed.run], by simp, fun n hn => ?_⟩, fold_ws h hd.2⟩
    obtain ⟨f, _, rfl⟩ := List.mem_map.mp hn
    exact gt_wo h _
  | add f w =>
    have hm : Wo ((gt ws f + w) % 1000) := ⟨Int.emod_nonneg _ (by decide), Int.emod_lt_of_pos _ (by decide)⟩
    exact ⟨⟨_, rfl, hm⟩, set_ws h hm⟩
  | move a b m =>
    have ha := gt_wo h a
    have hb := gt_wo h b
    have hm := hd.2.2.2
    by_cases c : gt ws a < m ∨ 1000 ≤ gt ws b + m
    · simp only [Deed.run, if_pos c]
      exact ⟨⟨_, rfl⟩, h⟩
    · simp only [Deed.run, if_neg c]
      unfold Wo at ha hb hm
      exact ⟨⟨_, rfl⟩, set_ws (set_ws h ⟨by omega, by omega⟩) ⟨by omega, by omega⟩⟩
structure Row where
  u : Nat
  dd : Deed
  b : Int
  e : Option (Int × D)
def Row.end_ (r : Row) : D := match r.e with
  | some p => .int p.1
  | none => .non
def Row.ans (r : Row) : D := match r.e with
  | some p => p.2
  | none => .non
def Row.d (r : Row) : D := .tup [.int (r.u : Nat), r.dd.d, .int r.b, r.end_, r.ans]
def Row.last (r : Row) : Int := match r.e with
  | some p => p.1
  | none => r.b
/-- a row, its moments up to m -/
def Row.Ok (m : Int) (r : Row) : Prop := r.u < 100 ∧ r.dd.Ok ∧ 0 ≤ r.b ∧ r.b ≤ m ∧ match r.e with
  | some p => r.b < p.1 ∧ p.1 ≤ m ∧ Ans r.dd p.2
  | none => True
def Hist (m : Int) (rows : List Row) : Prop := (∀ r ∈ rows, r.Ok m) ∧ rows.Pairwise fun r s => r.u = s.u → r.last < s.b
theorem Row.Ok.mono {m m' : Int} {r : Row} (h : r.Ok m) (hm : m ≤ m') : r.Ok m' := by
  unfold Row.Ok at h ⊢
  obtain ⟨h1, h2, h3, h4, h5⟩ := h
  refine ⟨h1, h2, h3, by omega, ?_⟩
  cases q : r.e with
  | none => trivial
  | some p =>
    rw [q] at h5
    simp only at h5 ⊢
    exact ⟨h5.1, by omega, h5.2.2⟩
theorem zero10 {S : Store} : gMul S (.v (.tup [.int 0])) (.v (.int 10)) = some (.v (tW (List.replicate 10 0))) := by
  simp [gMul, tW]
theorem ws0 : Ws (List.replicate 10 0) := ⟨by simp, fun w hw => by
  have := (List.mem_replicate.mp hw).2
  subst this
  exact ⟨by decide, by decide⟩⟩
theorem deed_word {d : Deed} : ∃ (w : Str) (r : List D), d.d = .tup (.str w :: r) ∧ PyData.strOk w = true ∧ (w = "look" ∨ w ≠ "look") := by
  cases d with
  | look fs => exact ⟨_, _, rfl, by simp, .inl rfl⟩
  | put ps => exact ⟨_, _, rfl, by simp, .inr (by simp)⟩
  | add f w => exact ⟨_, _, rfl, by simp, .inr (by simp)⟩
  | move a b m => exact ⟨_, _, rfl, by simp, .inr (by simp)⟩
/-- the state of the making of a history -/
structure HS (k many first : Nat) (ws : List Int) (mo : Int) (es : List Int) (rows : List Row) : Prop where
  w : Ws ws
  m0 : 0 ≤ mo
  m1 : mo ≤ 2 * k
  le : es.length = many
  e0 : ∀ e ∈ es, 0 ≤ e
  e1 : ∀ e ∈ es, e ≤ 2 * k + 5
  h : Hist (2 * k + 5) rows
  r : ∀ r ∈ rows, ∃ j, r.u = first + j ∧ j < many ∧ ∀ e, es[j]? = some e → r.last ≤ e
  n : rows.length ≤ k
  f : ∀ r ∈ rows, r.dd.F3
theorem hist_turn {T : Store} {k many first : Nat} {ws : List Int} {mo : Int} {es : List Int} {rows : List Row} {xs : List D} {hon : Bool} {A1 A9 A10 A11 A12 A13 A14 A15 : Sl} (h : HS k many first ws mo es rows) (hm : 0 < many) (hm2 : many ≤ 3) (hf : first ≤ 97) (hk : k ≤ 100) (hd : Dc xs) :
    ∃ ws' mo' es' rows' xs' B10 B11 B12 B13 B14 B15, bd__law_history_1 [.v (.ob 0), A1, .v (.int (many : Nat)), .v (.int (first : Nat)), .l (rows.map Row.d), .l (es.map D.int), .v (tW ws), .v (.int mo), .v (.bl hon), A9, A10, A11, A12, A13, A14, A15] (.lst xs :: T)
      = some (.next [.v (.ob 0), A1, .v (.int (many : Nat)), .v (.int (first : Nat)), .l (rows'.map Row.d), .l (es'.map D.int), .v (tW ws'), .v (.int mo'), .v (.bl hon), A9, B10, B11, B12, B13, B14, B15] (.lst xs' :: T)) ∧ HS (k + 1) many first ws' mo' es' rows' ∧ Dc xs' := by
  obtain ⟨j, x1, e1, j1, j2, hd1⟩ := off_ok T (many : Int) hd (by omega) (by omega)
  obtain ⟨J, rfl⟩ : ∃ J : Nat, j = J := ⟨j.toNat, by omega⟩
  have hJ : J < es.length := by rw [h.le]; omega
  obtain ⟨dd, x2, e2, hdd, hf3, hd2⟩ := deed_ok T hd1
  obtain ⟨p, x3, e3, p1, p2, hd3⟩ := off_ok T 2 hd2 (by decide) (by decide)
  obtain ⟨q, x4, e4, q1, q2, hd4⟩ := off_ok T 6 hd3 (by decide) (by decide)
  obtain ⟨v, ev⟩ : ∃ v, es[J]? = some v := ⟨es[J], by simp [hJ]⟩
  have hv0 := h.e0 v (List.mem_of_getElem? ev)
  have hv1 := h.e1 v (List.mem_of_getElem? ev)
  have av : atI (es.map D.int) (J : Nat) = some (.int v) := by rw [atI_nat, List.getElem?_map, ev]; rfl
  have mo0 := h.m0
  have mo1 := h.m1
  have dn := law_done_ok (S := .lst x4 :: T) h.w.1 hdd
  have rk := run_ok h.w hdd
  -- the answer of the row
  obtain ⟨ans, x5, hd5, hans, e5⟩ : ∃ ans x5, Dc x5 ∧ Ans dd ans ∧ ∀ (B14 : Sl), (sIf (eAnd (eUn gNot (eVar 8)) (eBin gEq (eCall ev__law_off [] [eVar 0, eLit (.int 2)]) (eLit (.int 0)))) (sAsg 15 (eBin gIx (eCall ev__law_done [] [eIf (eBin gNe (eBin gIx (eVar 11) (eLit (.int 0))) (eLit (.str "look"))) (eVar 13) (eBin gMul (eTup [eLit (.int 0)]) (eLit (.int 10))), eVar 11]) (eLit (.int 0)))) sNil)
      [.v (.ob 0), A1, .v (.int (many : Nat)), .v (.int (first : Nat)), .l (rows.map Row.d), .l (es.map D.int), .v (tW (dd.run ws).2), .v (.int (mo + 1 + p)), .v (.bl hon), A9, .v (.int (J : Nat)), .v dd.d, .v (.int (max (v + 1) (mo + 1 + p - q))), .v (tW ws), B14, .v (dd.run ws).1] (.lst x4 :: T)
      = some (.next [.v (.ob 0), A1, .v (.int (many : Nat)), .v (.int (first : Nat)), .l (rows.map Row.d), .l (es.map D.int), .v (tW (dd.run ws).2), .v (.int (mo + 1 + p)), .v (.bl hon), A9, .v (.int (J : Nat)), .v dd.d, .v (.int (max (v + 1) (mo + 1 + p - q))), .v (tW ws), B14, .v ans] (.lst x5 :: T)) := by
    cases hon with
    | true => exact ⟨_, x4, hd4, rk.1, fun B14 => by simp⟩
    | false =>
      obtain ⟨g, x5, e5, g1, g2, hd5⟩ := off_ok T 2 hd4 (by decide) (by decide)
      by_cases hg : g = 0
      · obtain ⟨w, r, e6, ow, hw⟩ := deed_word (d := dd)
        rcases hw with hw | hw
        · refine ⟨(dd.run (List.replicate 10 0)).1, x5, hd5, (run_ok ws0 hdd).1, fun B14 => ?_⟩
          have d0 := law_done_ok (S := .lst x5 :: T) (ws := List.replicate 10 0) ws0.1 hdd
          rw [e6] at d0 ⊢
          simp [e5, hg, hw, zero10, cap] at d0 ⊢
          simp [d0]
        · refine ⟨(dd.run ws).1, x5, hd5, rk.1, fun B14 => ?_⟩
          have d0 := law_done_ok (S := .lst x5 :: T) h.w.1 hdd
          rw [e6] at d0 ⊢
          simp [e5, hg, ow, hw, d0]
      · exact ⟨_, x5, hd5, rk.1, fun B14 => by simp [e5, hg]⟩
  obtain ⟨s, x6, e6, s1, s2, hd6⟩ := off_ok T 6 hd5 (by decide) (by decide)
  obtain ⟨t, x7, e7, t1, t2, hd7⟩ := off_ok T 6 hd6 (by decide) (by decide)
  have hbg : (0 : Int) ≤ max (v + 1) (mo + 1 + p - q) ∧ v < max (v + 1) (mo + 1 + p - q) ∧ max (v + 1) (mo + 1 + p - q) ≤ 2 * k + 6 := by omega
  generalize hb : max (v + 1) (mo + 1 + p - q) = bg at *
  have hen : bg < max (bg + 1) (mo + 1 + p + s) ∧ max (bg + 1) (mo + 1 + p + s) ≤ 2 * k + 7 := by omega
  generalize he : max (bg + 1) (mo + 1 + p + s) = en at *
  -- a row more
  have add : ∀ (e : Option (Int × D)) (l : Int), (Row.mk (first + J) dd bg e).last = l → (Row.mk (first + J) dd bg e).Ok (2 * (k + 1 : Nat) + 5) → v ≤ l → 0 ≤ l → l ≤ 2 * (k + 1 : Nat) + 5 →
      HS (k + 1) many first (dd.run ws).2 (mo + 1 + p) (es.set J l) (rows ++ [⟨first + J, dd, bg, e⟩]) := by
    intro e l el ok hvl l0 l1
    refine ⟨rk.2, by omega, by omega, by rw [List.length_set]; exact h.le, fun x hx => ?_, fun x hx => ?_, ⟨fun r hr => ?_, ?_⟩, fun r hr => ?_, by rw [List.length_append]; have := h.n; simp; omega, fun r hr => ?_⟩
    · exact (List.mem_or_eq_of_mem_set hx).elim (h.e0 x) fun z => z ▸ l0
    · exact (List.mem_or_eq_of_mem_set hx).elim (fun z => by have := h.e1 x z; omega) fun z => z ▸ l1
    · rcases List.mem_append.mp hr with hr | hr
      · exact (h.h.1 r hr).mono (by omega)
      · rw [List.mem_singleton.mp hr]; exact ok
    · rw [List.pairwise_append]
      refine ⟨h.h.2, by simp, fun r hr z hz => ?_⟩
      rw [List.mem_singleton.mp hz]
      intro eu
      obtain ⟨j', g1, g2, g3⟩ := h.r r hr
      have : j' = J := by simp only at eu; omega
      subst this
      have := g3 v ev
      show r.last < bg
      omega
    · rcases List.mem_append.mp hr with hr | hr
      · obtain ⟨j', g1, g2, g3⟩ := h.r r hr
        refine ⟨j', g1, g2, fun x hx => ?_⟩
        by_cases hj : j' = J
        · subst hj
          rw [List.getElem?_set_self hJ] at hx
          cases hx
          have := g3 v ev
          omega
        · rw [List.getElem?_set_ne (Ne.symm hj)] at hx
          exact g3 x hx
      · rw [List.mem_singleton.mp hr]
        refine ⟨J, rfl, by omega, fun x hx => ?_⟩
        rw [List.getElem?_set_self hJ] at hx
        cases hx
        rw [el]
        exact Int.le_refl _
    · rcases List.mem_append.mp hr with hr | hr
      · exact h.f r hr
      · rw [List.mem_singleton.mp hr]; exact hf3
  have ixJ : ixN es.length (J : Nat) = some J := ix_at hJ
  have avE : atI ((es.set J en).map D.int) (J : Nat) = some (.int en) := by rw [atI_nat, List.getElem?_map, List.getElem?_set_self hJ]; rfl
  have hn : rows.length < 16777216 := by have := h.n; omega
  have fJ : (first : Int) + (J : Int) = ((first + J : Nat) : Int) := by omega
  by_cases ht : t = 0
  · refine ⟨_, _, es.set J bg, rows ++ [⟨first + J, dd, bg, none⟩], x7, .v (.int (J : Nat)), .v dd.d, .v (.int bg), .v (tW ws), .v (Row.d ⟨first + J, dd, bg, none⟩), .v ans, ?_, add none bg rfl ⟨by show first + J < 100; omega, hdd, by show 0 ≤ bg; omega, by show bg ≤ _; omega, trivial⟩ (by omega) (by omega) (by omega), hd7⟩
    unfold bd__law_history_1
    simp [-sIf_, -List.map_set, e1, e2, e3, e4, av, hb, dn, e5, e6, he, ixJ, map_set, avE, cap]
    simp [-List.map_set, e7, ht, cap, hn, map_set, Row.d, Row.end_, Row.ans, ixJ]
  · refine ⟨_, _, es.set J en, rows ++ [⟨first + J, dd, bg, some (en, ans)⟩], x7, .v (.int (J : Nat)), .v dd.d, .v (.int bg), .v (tW ws), .v (Row.d ⟨first + J, dd, bg, some (en, ans)⟩), .v ans, ?_, add (some (en, ans)) en rfl ⟨by show first + J < 100; omega, hdd, by show 0 ≤ bg; omega, by show bg ≤ _; omega, by show bg < en; omega, by show en ≤ _; omega, hans⟩ (by omega) (by omega) (by omega), hd7⟩
    unfold bd__law_history_1
    simp [-sIf_, -List.map_set, e1, e2, e3, e4, av, hb, dn, e5, e6, he, ixJ, map_set, avE, cap]
    simp [-List.map_set, e7, ht, cap, hn, map_set, Row.d, Row.end_, Row.ans]

theorem hist_loop {T : Store} {many first : Nat} {hon : Bool} {A1 : Sl} (hm : 0 < many) (hm2 : many ≤ 3) (hf : first ≤ 97) : ∀ (its : List D) (k : Nat) (ws : List Int) (mo : Int) (es : List Int) (rows : List Row) (xs : List D) (A9 A10 A11 A12 A13 A14 A15 : Sl), HS k many first ws mo es rows → k + its.length ≤ 100 → Dc xs →
    ∃ ws' mo' es' rows' xs' B9 B10 B11 B12 B13 B14 B15, loopF (tgName 9) bd__law_history_1 .no its [.v (.ob 0), A1, .v (.int (many : Nat)), .v (.int (first : Nat)), .l (rows.map Row.d), .l (es.map D.int), .v (tW ws), .v (.int mo), .v (.bl hon), A9, A10, A11, A12, A13, A14, A15] (.lst xs :: T)
      = some (.next [.v (.ob 0), A1, .v (.int (many : Nat)), .v (.int (first : Nat)), .l (rows'.map Row.d), .l (es'.map D.int), .v (tW ws'), .v (.int mo'), .v (.bl hon), B9, B10, B11, B12, B13, B14, B15] (.lst xs' :: T)) ∧ HS (k + its.length) many first ws' mo' es' rows' ∧ Dc xs'
  | [], k, ws, mo, es, rows, xs, A9, A10, A11, A12, A13, A14, A15, h, _, hd => ⟨ws, mo, es, rows, xs, A9, A10, A11, A12, A13, A14, A15, rfl, h, hd⟩
  | d :: its, k, ws, mo, es, rows, xs, A9, A10, A11, A12, A13, A14, A15, h, hk, hd => by
    rw [List.length_cons] at hk
    obtain ⟨ws1, mo1, es1, rows1, xs1, C10, C11, C12, C13, C14, C15, e1, h1, hd1⟩ := hist_turn (T := T) (hon := hon) (A1 := A1) (A9 := .v d) (A10 := A10) (A11 := A11) (A12 := A12) (A13 := A13) (A14 := A14) (A15 := A15) h hm hm2 hf (by omega) hd
    obtain ⟨ws2, mo2, es2, rows2, xs2, B9, B10, B11, B12, B13, B14, B15, e2, h2, hd2⟩ := hist_loop (T := T) (hon := hon) (A1 := A1) hm hm2 hf its (k + 1) ws1 mo1 es1 rows1 xs1 (.v d) C10 C11 C12 C13 C14 C15 h1 (by omega) hd1
    refine ⟨ws2, mo2, es2, rows2, xs2, B9, B10, B11, B12, B13, B14, B15, ?_, by rw [List.length_cons, show k + (its.length + 1) = k + 1 + its.length by omega]; exact h2, hd2⟩
    rw [loopF_c]
    simp [-List.map_set, e1, e2]
theorem rep0 {S : Store} {many : Nat} (h : many ≤ 3) : gMul S (.l [.int 0]) (.v (.int (many : Nat))) = some (.l ((List.replicate many 0).map D.int)) := by
  have h' : many = 0 ∨ many = 1 ∨ many = 2 ∨ many = 3 := by omega
  rcases h' with rfl | rfl | rfl | rfl <;> rfl
theorem small_n {n : Int} (h : 0 ≤ n) (h' : n ≤ 1000) : smallN n = true := by
  unfold smallN
  rw [Bool.and_eq_true, decide_eq_true_eq, decide_eq_true_eq]
  omega
theorem capL {n : Nat} (h : n ≤ 1000) : (n ≤ cap) = True := eq_true (Nat.le_trans h (by decide))
@[simp] theorem cap0 : (0 ≤ cap) = True := capL (by decide)
@[simp] theorem cap1 : (1 ≤ cap) = True := capL (by decide)
@[simp] theorem cap2 : (2 ≤ cap) = True := capL (by decide)
@[simp] theorem cap3 : (3 ≤ cap) = True := capL (by decide)
@[simp] theorem cap4 : (4 ≤ cap) = True := capL (by decide)
@[simp] theorem cap5 : (5 ≤ cap) = True := capL (by decide)
theorem hist_ok {xs : List D} (T : Store) (most : Nat) (hmost : most ≤ 12) (hd : Dc xs) :
    ∃ rows xs', ev__law_history [.v (.ob 0), .v (.int (most : Nat))] (.lst xs :: T) = some (.l (rows.map Row.d), .lst xs' :: T) ∧ Hist 29 rows ∧ rows.length ≤ 12 ∧ (∀ r ∈ rows, r.dd.F3) ∧ Dc xs' := by
  obtain ⟨a, x1, e1, a1, a2, hd1⟩ := off_ok T 3 hd (by decide) (by decide)
  obtain ⟨b, x2, e2, b1, b2, hd2⟩ := off_ok T 3 hd1 (by decide) (by decide)
  obtain ⟨c, x3, e3, c1, c2, hd3⟩ := off_ok T 3 hd2 (by decide) (by decide)
  obtain ⟨n, x4, e4, n1, n2, hd4⟩ := off_ok T ((most : Int) + 1) hd3 (by omega) (by omega)
  obtain ⟨first, hf, ef⟩ : ∃ first : Nat, first ≤ 97 ∧ atI [R.v (.int 0), R.v (.int 0), R.v (.int 97)] b = some (.v (.int (first : Nat))) := by
    have hb : b = 0 ∨ b = 1 ∨ b = 2 := by omega
    rcases hb with rfl | rfl | rfl
    · exact ⟨0, by decide, rfl⟩
    · exact ⟨0, by decide, rfl⟩
    · exact ⟨97, by decide, rfl⟩
  obtain ⟨many, rfl⟩ : ∃ many : Nat, a = (many : Int) - 1 := ⟨(a + 1).toNat, by omega⟩
  have rep := rep0 (S := .lst x2 :: T) (many := many) (by omega)
  have z0 : HS 0 many first (List.replicate 10 0) 0 (List.replicate many 0) [] := by
    refine ⟨ws0, by simp, by simp, by simp, fun e he => ?_, fun e he => ?_, ⟨by simp, by simp⟩, by simp, by simp, by simp⟩
    · rw [(List.mem_replicate.mp he).2]; exact Int.le_refl _
    · rw [(List.mem_replicate.mp he).2]; decide
  have hlen : (rangeD n).length = n.toNat := by simp [rangeD]
  obtain ⟨ws, mo, es, rows, xs', B9, B10, B11, B12, B13, B14, B15, e5, hs, hd5⟩ := hist_loop (T := T) (many := many) (first := first) (hon := decide (0 < c)) (A1 := .v (.int (most : Nat))) (by omega) (by omega) hf (rangeD n) 0 _ 0 _ [] x4 .no .no .no .no .no .no .no z0 (by rw [hlen]; omega) hd4
  refine ⟨rows, xs', ?_, ⟨fun r hr => (hs.h.1 r hr).mono (by rw [hlen]; omega), hs.h.2⟩, by have := hs.n; rw [hlen] at this; omega, hs.f, hd5⟩
  unfold ev__law_history bo__law_history
  rw [runOf_ (ss := [.v (.ob 0), .v (.int (most : Nat))]) (by simp) (by simp)]
  have e1' : (1 : Int) + ((many : Int) - 1) = many := by omega
  have sn := small_n n1 (by omega)
  simp [-List.map_replicate] at e5
  simp -implicitDefEqProofs [-List.map_replicate, e1, e1', e2, ef, rep, zero10, e3, e4, sn]
  rw [e5]
  simp
end Ev

set_option Elab.async false
set_option linter.all false
set_option maxRecDepth 100000
set_option maxHeartbeats 4000000
/-! A history that is one is let go. -/
namespace Ev
open PySem L2
section
variable {S : Store}
theorem comp_none {α : Type} {ρ : Env} {tg : Tg} {ft fe : E} (c : α → D) {xs : List α} (h : ∀ x ∈ xs, ∃ ρ1, tg (c x) ρ = some ρ1 ∧ ft ρ1 S = some (.v (.bl false), S)) : compF tg ft fe .no ρ (xs.map c) S = some ([], S) := by
  rw [comp_pure c (fun _ => false) c fun x hx => by
    obtain ⟨ρ1, h1, h2⟩ := h x hx
    exact ⟨ρ1, h1, h2, fun z => by cases z⟩]
  rw [List.filter_eq_nil_iff.mpr (fun _ _ => by simp)]
  rfl
theorem below_int {i b : Int} : ev_is_below [.v (.int i), .v (.int b)] S = some (.v (.bl (decide (0 ≤ i ∧ i < b))), S) := by
  unfold ev_is_below bo_is_below
  rw [runOf_ (ss := [.v (.int i), .v (.int b)]) (by simp) (by simp)]
  by_cases h : 0 ≤ i
  · simp -implicitDefEqProofs [isTy, h]
  · simp -implicitDefEqProofs [isTy, h]
theorem below_ok {i b : Int} (h : 0 ≤ i) (h' : i < b) : ev_is_below [.v (.int i), .v (.int b)] S = some (.v (.bl true), S) := by
  rw [below_int, decide_eq_true ⟨h, h'⟩]
theorem sortU_rise : ∀ {l : List Int}, l.Pairwise (· < ·) → sortU l = l
  | [], _ => rfl
  | a :: l, h => by
    rw [List.pairwise_cons] at h
    rw [sortU, sortU_rise h.2]
    cases l with
    | nil => rfl
    | cons b l => rw [insU, if_pos (h.1 b (by simp))]
theorem fD_ints {fs : List Nat} : fs.map fD = (fs.map fun f => ((f : Nat) : Int)).map D.int := by
  rw [List.map_map]; rfl
theorem rising_ok {fs : List Nat} (h : Ris fs) : ev_are_rising [.v (.tup (fs.map fD))] S = some (.v (.bl true), S) := by
  unfold ev_are_rising bo_are_rising
  rw [runOf_ (ss := [.v (.tup (fs.map fD))]) (by simp) (by simp)]
  obtain ⟨h1, h2, h3, h4⟩ := h
  have cm := comp_none (S := S) (ρ := [.v (.tup (fs.map fD)), .no]) (tg := tgName 1) (ft := eUn gNot (eCall ev_is_below [] [eVar 1, eLit (.int 10)])) (fe := eVar 1) fD (xs := fs) fun f hf => ⟨_, rfl, by
    have := h4 f hf
    simp -implicitDefEqProofs [fD, below_ok (S := S) (i := (f : Nat)) (b := 10) (by omega) (by omega)]⟩
  have hr : sortU (fs.map fun f => ((f : Nat) : Int)) = fs.map fun f => ((f : Nat) : Int) := sortU_rise (by rw [List.pairwise_map]; exact h1.imp fun h => by omega)
  have c1 : (1 : Int) ≤ fs.length := by omega
  have c2 : (fs.length : Int) ≤ 4 := by omega
  have c3 : fs.length ≤ cap := Nat.le_trans h3 (by decide)
  have c4 : fs.length < 64 := by omega
  have fv : fVar 0 [.v (.tup (fs.map fD)), .no] S = some ((fs.map fD, .no, true), S) := fVar_t rfl
  have i1 : ints1 (fs.map fD) = some (fs.map fun f => ((f : Nat) : Int)) := by rw [fD_ints]; exact ints1_map _
  have eq : gEq S (.l (fs.map fD)) (.l ((fs.map fun f => ((f : Nat) : Int)).map D.int)) = some (.v (.bl true)) := by
    rw [fD_ints, gEq_ll (okNs_ints _) (okNs_ints _), eqDs_ints, decide_eq_true rfl]
  have ne : gNe S (.l []) (.l []) = some (.v (.bl false)) := by rw [gNe_ll (by simp [okNs]) (by simp [okNs])]; simp
  simp -implicitDefEqProofs [-List.map_map, isTy, c1, c2, fv, c3, wipeE, cm, ne, eSortedSet, i1, c4, hr, eq]
theorem pairs_ok {ps : List (Nat × Int)} (h : Ris (ps.map (·.1))) (hw : ∀ p ∈ ps, Wo p.2) : ev_are_pairs [.v (.tup (ps.map pD))] S = some (.v (.bl true), S) := by
  unfold ev_are_pairs bo_are_pairs
  rw [runOf_ (ss := [.v (.tup (ps.map pD))]) (by simp) (by simp)]
  have c3 : ps.length ≤ cap := by
    have := h.2.2.1
    rw [List.length_map] at this
    exact Nat.le_trans this (by decide)
  have fv : fVar 0 [.v (.tup (ps.map pD)), .no] S = some ((ps.map pD, .no, true), S) := fVar_t rfl
  have ne : gNe S (.l []) (.l []) = some (.v (.bl false)) := by rw [gNe_ll (by simp [okNs]) (by simp [okNs])]; simp
  have cm1 := comp_none (S := S) (ρ := [.v (.tup (ps.map pD)), .no]) (tg := tgName 1) (ft := eOr (eUn gNot (eIsi .tuple (eVar 1))) (eBin gNe (eBlt gLen [eVar 1]) (eLit (.int 2)))) (fe := eVar 1) pD (xs := ps) fun p hp => ⟨_, rfl, by
    simp -implicitDefEqProofs [pD, isTy]⟩
  have cm2 := comp_none (S := S) (ρ := [.v (.tup (ps.map pD)), .no]) (tg := tgName 1) (ft := eUn gNot (eCall ev_is_below [] [eBin gIx (eVar 1) (eLit (.int 1)), eLit (.int 1000)])) (fe := eVar 1) pD (xs := ps) fun p hp => ⟨_, rfl, by
    have := hw p hp
    simp -implicitDefEqProofs [pD, below_ok this.1 this.2]⟩
  have cm3 := comp_map (S := S) (ρ := [.v (.tup (ps.map pD)), .no]) (tg := tgName 1) (fe := eBin gIx (eVar 1) (eLit (.int 0))) pD (fun p => fD p.1) (xs := ps) fun p hp => ⟨_, rfl, by simp -implicitDefEqProofs [pD, fD]⟩
  have e3 : (ps.map fun p => fD p.1) = (ps.map (·.1)).map fD := by rw [List.map_map]; rfl
  rw [e3] at cm3
  have rk := rising_ok (S := S) h
  simp -implicitDefEqProofs [-List.map_map, isTy, fv, c3, wipeE, cm1, cm2, cm3, ne, rk]
theorem deed_is {d : Deed} (h : d.Ok) : ev_is_deed [.v d.d] S = some (.v (.bl true), S) := by
  unfold ev_is_deed bo_is_deed
  rw [runOf_ (ss := [.v d.d]) (by simp) (by simp)]
  have emp : ∀ (w : Str) (r : List D), okN 60 (.tup (.str w :: r)) = true → gEq S (.v (.tup (.str w :: r))) (.v (.tup [])) = some (.v (.bl false)) := fun w r ok => by
    rw [gEqV ok (by simp [okN, okNs])]; simp
  have oks : ∀ fs : List Nat, okNs 58 (fs.map fD) = true := fun fs => by rw [fD_ints]; exact okNs_ints _
  have okp : ∀ ps : List (Nat × Int), okNs 58 (ps.map pD) = true := fun ps => by
    induction ps with
    | nil => simp [okNs]
    | cons p ps ih => rw [List.map_cons, okNs, ih]; simp [pD, okN, okNs]
  cases d with
  | look fs =>
    have em := emp "look" [.tup (fs.map fD)] (by simp [okN, okNs, oks])
    simp -implicitDefEqProofs [Deed.d, isTy, em, rising_ok h]
  | put ps =>
    have em := emp "put" [.tup (ps.map pD)] (by simp [okN, okNs, okp])
    simp -implicitDefEqProofs [Deed.d, isTy, em, pairs_ok h.1 h.2]
  | add f w =>
    have em := emp "add" [.int (f : Nat), .int w] (by simp [okN, okNs])
    have b1 := below_ok (S := S) (i := (f : Nat)) (b := 10) (by omega) (by have := h.1; omega)
    have b2 := below_ok (S := S) (i := w) (b := 1000) h.2.1 h.2.2
    simp -implicitDefEqProofs [Deed.d, isTy, em, b1, b2]
  | move a b m =>
    obtain ⟨h1, h2, h3, h4⟩ := h
    have em := emp "move" [.int (a : Nat), .int (b : Nat), .int m] (by simp [okN, okNs])
    have b1 := below_ok (S := S) (i := (a : Nat)) (b := 10) (by omega) (by omega)
    have b2 := below_ok (S := S) (i := (b : Nat)) (b := 10) (by omega) (by omega)
    have b3 := below_ok (S := S) (i := m) (b := 1000) h4.1 h4.2
    have hab : ¬ (a : Int) = (b : Int) := by omega
    simp -implicitDefEqProofs [Deed.d, isTy, em, b1, b2, b3, hab]
theorem plain_is {d : Deed} (h : d.Ok) : ev_is_plain [.v d.d] S = some (.v (.bl true), S) := by
  unfold ev_is_plain bo_is_plain
  rw [runOf_ (ss := [.v d.d]) (by simp) (by simp)]
  have di := deed_is (S := S) h
  cases d with
  | look fs => simp [Deed.d] at di ⊢; simp -implicitDefEqProofs [di]
  | put fs => simp [Deed.d] at di ⊢; simp -implicitDefEqProofs [di]
  | add f w => simp [Deed.d] at di ⊢; simp -implicitDefEqProofs [di]
  | move a b m => simp [Deed.d] at di ⊢; simp -implicitDefEqProofs [di]
theorem answer_is {d : Deed} {a : D} (ok : d.Ok) (h : Ans d a) : ev_is_answer [.v d.d, .v a] S = some (.v (.bl true), S) := by
  unfold ev_is_answer bo_is_answer
  rw [runOf_ (ss := [.v d.d, .v a]) (by simp) (by simp)]
  have eq : gEq S (.l []) (.l []) = some (.v (.bl true)) := by rw [gEq_ll (by simp [okNs]) (by simp [okNs])]; simp
  have tup : ∀ (ns : List Int), (∀ n ∈ ns, Wo n) → compF (tgName 2) (eUn gNot (eCall ev_is_below [] [eVar 2, eLit (.int 1000)])) (eVar 2) .no [.v d.d, .v (.tup (ns.map D.int)), .no] (ns.map D.int) S = some ([], S) := by
    intro ns hw
    exact comp_none (S := S) (ρ := [.v d.d, .v (.tup (ns.map D.int)), .no]) (tg := tgName 2) (ft := eUn gNot (eCall ev_is_below [] [eVar 2, eLit (.int 1000)])) (fe := eVar 2) D.int (xs := ns) fun n hn => ⟨_, rfl, by
      have := hw n hn
      simp -implicitDefEqProofs [below_ok this.1 this.2]⟩
  have fv : ∀ ns : List Int, fVar 1 [.v d.d, .v (.tup (ns.map D.int)), .no] S = some ((ns.map D.int, .no, true), S) := fun ns => fVar_t rfl
  cases d with
  | look fs =>
    obtain ⟨ns, rfl, h1, h2⟩ := h
    have c3 : ns.length ≤ cap := by rw [h1]; exact Nat.le_trans ok.2.2.1 (by decide)
    have t1 := tup ns h2
    have f1 := fv ns
    simp [Deed.d] at t1 f1 ⊢
    simp -implicitDefEqProofs [isTy, h1, f1, c3, wipeE, t1, eq]
    rw [if_pos (by rw [← h1]; exact c3)]
    simp -implicitDefEqProofs [eq]
  | put ps =>
    obtain ⟨ns, rfl, h1, h2⟩ := h
    have c3 : ns.length ≤ cap := by
      have := ok.1.2.2.1
      rw [List.length_map] at this
      rw [h1]; exact Nat.le_trans this (by decide)
    have t1 := tup ns h2
    have f1 := fv ns
    simp [Deed.d] at t1 f1 ⊢
    simp -implicitDefEqProofs [isTy, h1, f1, c3, wipeE, t1, eq]
    rw [if_pos (by rw [← h1]; exact c3)]
    simp -implicitDefEqProofs [eq]
  | add f w =>
    obtain ⟨n, rfl, h1, h2⟩ := h
    simp -implicitDefEqProofs [Deed.d, below_ok h1 h2]
  | move a b m =>
    obtain ⟨k, rfl⟩ := h
    simp -implicitDefEqProofs [Deed.d, isTy]
theorem row_is {m : Int} {r : Row} (h : r.Ok m) (hm : m < 10000) : ev_is_row [.v r.d] S = some (.v (.bl true), S) := by
  unfold ev_is_row bo_is_row
  rw [runOf_ (ss := [.v r.d]) (by simp) (by simp)]
  obtain ⟨h1, h2, h3, h4, h5⟩ := h
  have b1 := below_ok (S := S) (i := (r.u : Nat)) (b := 100) (by omega) (by omega)
  have b2 := below_ok (S := S) (i := r.b) (b := 10000) h3 (by omega)
  have pl := plain_is (S := S) h2
  cases q : r.e with
  | none =>
    simp -implicitDefEqProofs [Row.d, Row.end_, Row.ans, q, isTy, pl, b1, b2]
  | some p =>
    rw [q] at h5
    simp only at h5
    have b3 := below_ok (S := S) (i := p.1) (b := 10000) (by omega) (by omega)
    have an := answer_is (S := S) h2 h5.2.2
    simp -implicitDefEqProofs [Row.d, Row.end_, Row.ans, q, isTy, pl, b1, b2, b3, an, h5.1]
/-- what is noted of users -/
def Nt (kvs : List (D × D)) (done_ : List Row) : Prop := (∀ p ∈ kvs, ∃ (u : Nat) (l : Int), p = (.int (u : Nat), .int l) ∧ ∃ r ∈ done_, r.u = u ∧ r.last = l) ∧ kvs.length ≤ done_.length
theorem need_loop {A : Sl} {m : Int} (hm : m < 10000) : ∀ (rest done_ : List Row) (kvs : List (D × D)) (x y : Sl), Hist m (done_ ++ rest) → done_.length + rest.length ≤ 12 → Nt kvs done_ →
    ∃ ρ', loopF (tgTup [2, 3]) bd_need_history_1 .no (enumD done_.length (rest.map Row.d)) [A, .d .K kvs, x, y] S = some (.next ρ' S)
  | [], done_, kvs, x, y, _, _, _ => ⟨_, rfl⟩
  | r :: rest, done_, kvs, x, y, hh, hl, hn => by
    have hr : r.Ok m := hh.1 r (by simp)
    have ri := row_is (S := S) hr hm
    -- what stands for the user
    have hlook : ∀ d, dLook kvs (.int (r.u : Nat)) = some d → ∃ l, d = .int l ∧ l < r.b := by
      intro d e
      unfold dLook at e
      cases q : kvs.find? (fun p => decide (p.1 = D.int (r.u : Nat))) with
      | none => rw [q] at e; cases e
      | some p =>
        rw [q] at e
        cases e
        obtain ⟨u, l, rfl, r', hr', h1, h2⟩ := hn.1 p (List.mem_of_find?_eq_some q)
        have hp := List.find?_some q
        simp at hp
        refine ⟨l, rfl, ?_⟩
        have pw := (List.pairwise_append.mp hh.2).2.2 r' hr' r (by simp)
        rw [h2] at pw
        exact pw (by omega)
    obtain ⟨kvs', hput, hn'⟩ : ∃ kvs', putSl (.d .K kvs) (.int (r.u : Nat)) (.int r.last) = some (.d .K kvs') ∧ Nt kvs' (done_ ++ [r]) := by
      refine ⟨dPut kvs (.int (r.u : Nat)) (.int r.last), ?_, ?_, ?_⟩
      · have c : kvs.length < cap := Nat.lt_of_le_of_lt (Nat.le_trans hn.2 (show done_.length ≤ 12 by omega)) (by decide)
        simp [putSl, keyOk, key1, c]
      · intro p hp
        unfold dPut at hp
        split at hp
        · obtain ⟨q, hq, rfl⟩ := List.mem_map.mp hp
          split
          · rename_i c
            exact ⟨r.u, r.last, by rw [c], r, by simp, rfl, rfl⟩
          · obtain ⟨u, l, e, r', hr', h1⟩ := hn.1 q hq
            exact ⟨u, l, e, r', by simp [hr'], h1⟩
        · rcases List.mem_append.mp hp with hp | hp
          · obtain ⟨u, l, e, r', hr', h1⟩ := hn.1 p hp
            exact ⟨u, l, e, r', by simp [hr'], h1⟩
          · rw [List.mem_singleton.mp hp]
            exact ⟨r.u, r.last, rfl, r, by simp, rfl, rfl⟩
      · have := hn.2
        unfold dPut
        split
        · rw [List.length_map, List.length_append]; simp; omega
        · rw [List.length_append, List.length_append]; simp; omega
    obtain ⟨ρ', ih⟩ := need_loop (A := A) hm rest (done_ ++ [r]) kvs' (.v (.int (done_.length : Nat))) (.v r.d) (by rw [List.append_assoc]; exact hh) (by rw [List.length_append]; simp at hl ⊢; omega) hn'
    refine ⟨ρ', ?_⟩
    rw [List.map_cons, enumD, loopF_c]
    have hlt : ¬ (12 : Int) ≤ (done_.length : Nat) := by simp at hl; omega
    have look : ∀ (P : Prop) [Decidable P], True := fun _ _ => trivial
    have body : bd_need_history_1 [A, .d .K kvs, .v (.int (done_.length : Nat)), .v r.d] S = some (.next [A, .d .K kvs', .v (.int (done_.length : Nat)), .v r.d] S) := by
      unfold bd_need_history_1
      have inn : gIn S (.v (.int (r.u : Nat))) (.bd .K kvs) = some (.v (.bl (dLook kvs (.int (r.u : Nat))).isSome)) := by
        simp [gIn, inR, R.dicR, keyOk, key1]
      have ixx : gIx S (.bd .K kvs) (.v (.int (r.u : Nat))) = (dLook kvs (.int (r.u : Nat))).map R.v := by
        simp [gIx, R.dicR, keyOk, key1]
      have r0 : gIx S (.v r.d) (.v (.int 0)) = some (.v (.int (r.u : Nat))) := by simp [Row.d]
      have r2 : gIx S (.v r.d) (.v (.int 2)) = some (.v (.int r.b)) := by simp [Row.d]
      have r3 : gIx S (.v r.d) (.v (.int 3)) = some (.v r.end_) := by simp [Row.d]
      have lst : (eIf (eUn gIsN (eBin gIx (eVar 3) (eLit (.int 3)))) (eBin gIx (eVar 3) (eLit (.int 2))) (eBin gIx (eVar 3) (eLit (.int 3)))) [A, .d .K kvs, .v (.int (done_.length : Nat)), .v r.d] S = some (.v (.int r.last), S) := by
        cases q : r.e with
        | none => simp -implicitDefEqProofs [r2, r3, Row.end_, Row.last, q]
        | some p => simp -implicitDefEqProofs [r2, r3, Row.end_, Row.last, q]
      cases q : dLook kvs (.int (r.u : Nat)) with
      | none => simp -implicitDefEqProofs [-eIf_, hlt, ri, r0, inn, q, lst, hput]
      | some d =>
        obtain ⟨l, rfl, hl2⟩ := hlook d q
        have hnl : ¬ r.b ≤ l := by omega
        simp -implicitDefEqProofs [-eIf_, hlt, ri, r0, r2, inn, ixx, q, hnl, lst, hput]
    rw [List.length_append] at ih
    simp -implicitDefEqProofs [body] at ih ⊢
    exact ih
theorem need_ok {m : Int} {rows : List Row} (hm : m < 10000) (h : Hist m rows) (hl : rows.length ≤ 12) : ev_need_history [.b (rows.map Row.d)] S = some (.v .non, S) := by
  unfold ev_need_history bo_need_history
  rw [runOf_ (ss := [.b (rows.map Row.d)]) (by simp) (by simp)]
  obtain ⟨ρ', e⟩ := need_loop (S := S) (A := .b (rows.map Row.d)) hm rows [] [] .no .no (by simpa using h) (by simpa using hl) ⟨by simp, by simp⟩
  have fe : fEnumV 0 [.b (rows.map Row.d), .d .K [], .no, .no] S = some ((enumD 0 (rows.map Row.d), .no, true), S) := by
    simp [fEnumV, R.src]
  simp -implicitDefEqProofs [eDNew, fe] at e ⊢
  simp -implicitDefEqProofs [e]
end
end Ev

set_option Elab.async false
set_option linter.all false
set_option maxRecDepth 100000
set_option maxHeartbeats 4000000
/-! Answers compared. -/
namespace Ev
open PySem L2
section
variable {S : Store}
theorem ans_okN {d : Deed} {a : D} (h : Ans d a) : okN 60 a = true := by
  cases d with
  | look fs => obtain ⟨ns, rfl, _⟩ := h; rw [okN]; exact okNs_ints ns
  | put ps => obtain ⟨ns, rfl, _⟩ := h; rw [okN]; exact okNs_ints ns
  | add f w => obtain ⟨n, rfl, _⟩ := h; rfl
  | move x y m => obtain ⟨b, rfl⟩ := h; rfl
theorem map_int_inj {a b : List Int} : (a.map D.int = b.map D.int) ↔ a = b := List.map_inj_right (fun x y e => by injection e)
theorem ans_eq {d : Deed} {a b : D} (h : Ans d a) (h' : Ans d b) : eqD a b = decide (a = b) := by
  cases d with
  | look fs =>
    obtain ⟨ns, rfl, _⟩ := h
    obtain ⟨ms, rfl, _⟩ := h'
    simp [eqDs_ints, map_int_inj]
  | put ps =>
    obtain ⟨ns, rfl, _⟩ := h
    obtain ⟨ms, rfl, _⟩ := h'
    simp [eqDs_ints, map_int_inj]
  | add f w => obtain ⟨n, rfl, _⟩ := h; obtain ⟨m, rfl, _⟩ := h'; simp
  | move x y m => obtain ⟨p, rfl⟩ := h; obtain ⟨q, rfl⟩ := h'; simp
@[simp] theorem gEqB {a b : Bool} : gEq S (.v (.bl a)) (.v (.bl b)) = some (.v (.bl (decide (a = b)))) := by
  rw [gEqV rfl rfl, eqD_bl]
@[simp] theorem gNeB {a b : Bool} : gNe S (.v (.bl a)) (.v (.bl b)) = some (.v (.bl (!decide (a = b)))) := by
  rw [gNeV rfl rfl, eqD_bl]
theorem like_ok {d : Deed} {a b : D} (h : Ans d a) (h' : Ans d b) : ev_like [.v a, .v b] S = some (.v (.bl (decide (a = b))), S) := by
  unfold ev_like bo_like
  rw [runOf_ (ss := [.v a, .v b]) (by simp) (by simp)]
  have e1 := gEqV (S := S) (ans_okN h) (ans_okN h')
  rw [ans_eq h h'] at e1
  have e2 : ∃ k : Bool, (R.v a).kd S = (R.v b).kd S ∧ ((R.v a).kd S).isSome := by
    cases d with
    | look fs => obtain ⟨ns, rfl, _⟩ := h; obtain ⟨ms, rfl, _⟩ := h'; exact ⟨true, by simp⟩
    | put fs => obtain ⟨ns, rfl, _⟩ := h; obtain ⟨ms, rfl, _⟩ := h'; exact ⟨true, by simp⟩
    | add f w => obtain ⟨n, rfl, _⟩ := h; obtain ⟨m, rfl, _⟩ := h'; exact ⟨true, by simp⟩
    | move x y m => obtain ⟨p, rfl⟩ := h; obtain ⟨q, rfl⟩ := h'; exact ⟨true, by simp⟩
  obtain ⟨_, e2, e3⟩ := e2
  obtain ⟨k, hk⟩ := Option.isSome_iff_exists.mp e3
  have hk' := e2 ▸ hk
  by_cases hab : a = b
  · subst hab
    simp -implicitDefEqProofs [e1, hk]
  · simp -implicitDefEqProofs [e1, hab]
/-- numbers -/
theorem alike_int {n : Nat} {i j : Int} : ev__law_alike (n + 1) [.v (.int i), .v (.int j)] S = some (.v (.bl (decide (i = j))), S) := by
  show runOf 3 (bo__law_alike (ev__law_alike n)) _ S = _
  unfold bo__law_alike
  rw [runOf_ (ss := [.v (.int i), .v (.int j)]) (by simp) (by simp)]
  simp -implicitDefEqProofs [isTy]
theorem alike_bl {n : Nat} {i j : Bool} : ev__law_alike (n + 1) [.v (.bl i), .v (.bl j)] S = some (.v (.bl (decide (i = j))), S) := by
  show runOf 3 (bo__law_alike (ev__law_alike n)) _ S = _
  unfold bo__law_alike
  rw [runOf_ (ss := [.v (.bl i), .v (.bl j)]) (by simp) (by simp)]
  simp -implicitDefEqProofs [isTy]
theorem bools_map : ∀ bs : List Bool, bools1 (bs.map D.bl) = some bs
  | [] => rfl
  | b :: bs => by simp [bools1, bools_map bs]
theorem rangeD_nat {n : Nat} : rangeD (n : Nat) = (List.range n).map fD := by
  unfold rangeD
  rw [Int.toNat_natCast]
  rfl
theorem all_eq_list {ns ms : List Int} (h : ns.length = ms.length) : ((List.range ms.length).map fun k => decide (ns.getD k 0 = ms.getD k 0)).all id = decide (ns = ms) := by
  rw [Bool.eq_iff_iff]
  simp only [List.all_map, List.all_eq_true, List.mem_range, Function.comp, id, decide_eq_true_eq]
  constructor
  · intro hh
    refine List.ext_getElem h fun i h1 h2 => ?_
    have := hh i h2
    simpa [h1, h2] using this
  · rintro rfl i _
    rfl
/-- tuples of numbers -/
theorem alike_tup {n : Nat} {ns ms : List Int} (hl : ms.length ≤ 1000) : ev__law_alike (n + 2) [.v (.tup (ns.map D.int)), .v (.tup (ms.map D.int))] S = some (.v (.bl (decide (ns = ms))), S) := by
  show runOf 3 (bo__law_alike (ev__law_alike (n + 1))) _ S = _
  unfold bo__law_alike
  rw [runOf_ (ss := [.v (.tup (ns.map D.int)), .v (.tup (ms.map D.int))]) (by simp) (by simp)]
  by_cases h : ns.length = ms.length
  · have cm := comp_map (S := S) (ρ := [.v (.tup (ns.map D.int)), .v (.tup (ms.map D.int)), .no]) (tg := tgName 2) (fe := eCall (ev__law_alike (n + 1)) [] [eBin gIx (eVar 0) (eVar 2), eBin gIx (eVar 1) (eVar 2)]) fD (fun k => .bl (decide (ns.getD k 0 = ms.getD k 0))) (xs := List.range ms.length) fun k hk => ⟨_, rfl, by
      have k2 := List.mem_range.mp hk
      have g1 := gt_at (ws := ns) (f := k) (by omega)
      have g2 := gt_at (ws := ms) (f := k) k2
      unfold gt at g1 g2
      simp -implicitDefEqProofs [fD, g1, g2, alike_int]⟩
    have e3 : ((List.range ms.length).map fun k => D.bl (decide (ns.getD k 0 = ms.getD k 0))) = ((List.range ms.length).map fun k => decide (ns.getD k 0 = ms.getD k 0)).map D.bl := by rw [List.map_map]; rfl
    rw [e3] at cm
    have sn := small_n (n := (ms.length : Nat)) (by omega) (by omega)
    have hc : ms.length ≤ cap := Nat.le_trans hl (by decide)
    have ga : gAll S [.l (((List.range ms.length).map fun k => decide (ns.getD k 0 = ms.getD k 0)).map D.bl)] = some (.v (.bl (decide (ns = ms)))) := by
      simp only [gAll, lseq_l, Option.bind_some, bools_map, Option.map_some, all_eq_list h]
    have hI : ¬ ¬ ((ns.length : Nat) : Int) = ((ms.length : Nat) : Int) := by omega
    have sn2 := sn
    simp -implicitDefEqProofs [-List.map_map, -List.getD_eq_getElem?_getD, isTy, h, sn, hc, rangeD_nat, wipeE, cm, ga]
  · have h2 : ¬ ns = ms := fun z => h (by rw [z])
    have h3 : ¬ ((ns.length : Nat) : Int) = ((ms.length : Nat) : Int) := by omega
    simp -implicitDefEqProofs [isTy, h, h2, h3]
theorem alike_ok {n : Nat} {d : Deed} {a b : D} (hd : d.Ok) (h : Ans d a) (h' : Ans d b) : ev__law_alike (n + 2) [.v a, .v b] S = some (.v (.bl (decide (a = b))), S) := by
  cases d with
  | look fs =>
    obtain ⟨ns, rfl, _⟩ := h
    obtain ⟨ms, rfl, e, _⟩ := h'
    rw [alike_tup (by rw [e]; have := hd.2.2.1; omega)]
    simp [map_int_inj]
  | put ps =>
    obtain ⟨ns, rfl, _⟩ := h
    obtain ⟨ms, rfl, e, _⟩ := h'
    rw [alike_tup (by rw [e]; have := hd.1.2.2.1; simp at this; omega)]
    simp [map_int_inj]
  | add f w =>
    obtain ⟨i, rfl, _⟩ := h
    obtain ⟨j, rfl, _⟩ := h'
    rw [alike_int (n := n + 1)]
    simp
  | move x y m =>
    obtain ⟨p, rfl⟩ := h
    obtain ⟨q, rfl⟩ := h'
    rw [alike_bl (n := n + 1)]
    simp
end
end Ev

set_option Elab.async false
set_option linter.all false
set_option maxRecDepth 100000
set_option maxHeartbeats 4000000
/-! The two searches are one. -/
namespace Ev
open PySem L2
instance : Inhabited Row := ⟨⟨0, .look [], 0, none⟩⟩
def rwA (R : List Row) (i : Nat) : Row := R.getD i default
def Row.endI (r : Row) : Int := match r.e with
  | some p => p.1
  | none => 0
def hasE (R : List Row) (i : Nat) : Bool := (rwA R i).e.isSome
def endsOf (R : List Row) (left : List Nat) : List Int := (left.filter (hasE R)).map fun i => (rwA R i).endI
def nextOf (R : List Row) (left : List Nat) : List Nat := left.filter fun i => (endsOf R left).all fun e => !decide (e < (rwA R i).b)
def tN (left : List Nat) : D := .tup (left.map fD)
def keyN (left : List Nat) (ws : List Int) : D := .tup [tN left, tW ws]
section
variable {S : Store} {R : List Row}
theorem ixRow {i : Nat} (h : i < R.length) : gIx S (.b (R.map Row.d)) (.v (.int (i : Nat))) = some (.v (rwA R i).d) := by
  rw [gIx_b, atI_nat, List.getElem?_map]
  simp [rwA, h]
theorem row_0 {r : Row} : gIx S (.v r.d) (.v (.int 0)) = some (.v (.int (r.u : Nat))) := by simp [Row.d]
theorem row_1 {r : Row} : gIx S (.v r.d) (.v (.int 1)) = some (.v r.dd.d) := by simp [Row.d]
theorem row_2 {r : Row} : gIx S (.v r.d) (.v (.int 2)) = some (.v (.int r.b)) := by simp [Row.d]
theorem row_3 {r : Row} : gIx S (.v r.d) (.v (.int 3)) = some (.v r.end_) := by simp [Row.d]
theorem row_4 {r : Row} : gIx S (.v r.d) (.v (.int 4)) = some (.v r.ans) := by simp [Row.d]
theorem end_non {r : Row} : decide (r.end_ = .non) = !r.e.isSome := by
  unfold Row.end_
  cases r.e <;> simp
theorem end_int {r : Row} (h : r.e.isSome = true) : r.end_ = .int r.endI := by
  unfold Row.end_ Row.endI
  cases q : r.e with
  | none => rw [q] at h; cases h
  | some p => rfl
/-- the ends of what is left -/
theorem ends_comp {ρ : Env} {k : Nat} {left : List Nat} (h0 : ρ[0]? = some (.b (R.map Row.d))) (hk : 0 < k) (hk2 : k < ρ.length) (hl : ∀ i ∈ left, i < R.length) :
    compF (tgName k) (eUn gNotN (eBin gIx (eBin gIx (eVar 0) (eVar k)) (eLit (.int 3)))) (eBin gIx (eBin gIx (eVar 0) (eVar k)) (eLit (.int 3))) .no ρ (left.map fD) S = some ((endsOf R left).map D.int, S) := by
  rw [comp_pure (S := S) fD (hasE R) (fun i => .int (rwA R i).endI) fun i hi => ⟨_, rfl, ?_, fun hp => ?_⟩]
  · unfold endsOf
    rw [List.map_map]
    rfl
  · have a0 : (ρ.set k (.v (.int (i : Nat))))[0]? = some (.b (R.map Row.d)) := by rw [List.getElem?_set_ne (by omega)]; exact h0
    have ak : (ρ.set k (.v (.int (i : Nat))))[k]? = some (.v (.int (i : Nat))) := by rw [List.getElem?_set_self hk2]
    simp -implicitDefEqProofs only [fD, eUn_, eBin_, eVar_, eLit_, a0, ak, rdSl_b, rdSl_v, Option.map_some, bnd_s, ixRow (hl i hi), row_3, gNotN_, isNone_v, end_non, Bool.not_not]
    rfl
  · have a0 : (ρ.set k (.v (.int (i : Nat))))[0]? = some (.b (R.map Row.d)) := by rw [List.getElem?_set_ne (by omega)]; exact h0
    have ak : (ρ.set k (.v (.int (i : Nat))))[k]? = some (.v (.int (i : Nat))) := by rw [List.getElem?_set_self hk2]
    simp -implicitDefEqProofs only [fD, eBin_, eVar_, eLit_, a0, ak, rdSl_b, rdSl_v, Option.map_some, bnd_s, ixRow (hl i hi), row_3, end_int hp]
theorem filter_nil {xs : List Int} {p : Int → Bool} : (xs.filter p).isEmpty = xs.all fun x => !p x := by
  induction xs with
  | nil => rfl
  | cons x xs ih =>
    rw [List.filter_cons, List.all_cons]
    cases p x with
    | false => simpa using ih
    | true => simp
theorem next_ok {left : List Nat} (hl : ∀ i ∈ left, i < R.length) (hc : left.length ≤ 1000) : ev_may_be_next [.b (R.map Row.d), .v (tN left)] S = some (.l ((nextOf R left).map fD), S) := by
  unfold ev_may_be_next bo_may_be_next
  rw [runOf_ (ss := [.b (R.map Row.d), .v (tN left)]) (by simp) (by simp)]
  have c1 : left.length ≤ cap := Nat.le_trans hc (by decide)
  have c2 : (endsOf R left).length ≤ cap := by
    unfold endsOf
    rw [List.length_map]
    exact Nat.le_trans (List.length_filter_le _ _) c1
  have f1 : fVar 1 [.b (R.map Row.d), .v (tN left), .no, .no, .no] S = some ((left.map fD, .no, true), S) := fVar_t rfl
  have f2 : fVar 1 [.b (R.map Row.d), .v (tN left), .l ((endsOf R left).map D.int), .no, .no] S = some ((left.map fD, .no, true), S) := fVar_t rfl
  have ec := ends_comp (S := S) (R := R) (ρ := [.b (R.map Row.d), .v (tN left), .no, .no, .no]) (k := 3) rfl (by decide) (by simp) hl
  have cm := comp_pure (S := S) (ρ := [.b (R.map Row.d), .v (tN left), .l ((endsOf R left).map D.int), .no, .no]) (tg := tgName 3) (ft := eBin gEq (eComp (fVar 2) (tgName 4) [4] (eBin gLt (eVar 4) (eBin gIx (eBin gIx (eVar 0) (eVar 3)) (eLit (.int 2)))) (eVar 4)) (eLst [])) (fe := eVar 3) fD (fun i => (endsOf R left).all fun e => !decide (e < (rwA R i).b)) fD (xs := left) fun i hi => ⟨_, rfl, by
    have f3 : fVar 2 [.b (R.map Row.d), .v (tN left), .l ((endsOf R left).map D.int), .v (fD i), .no] S = some (((endsOf R left).map D.int, .no, false), S) := fVar_l rfl
    have c4 := comp_pure (S := S) (ρ := [.b (R.map Row.d), .v (tN left), .l ((endsOf R left).map D.int), .v (fD i), .no]) (tg := tgName 4) (ft := eBin gLt (eVar 4) (eBin gIx (eBin gIx (eVar 0) (eVar 3)) (eLit (.int 2)))) (fe := eVar 4) D.int (fun e => decide (e < (rwA R i).b)) D.int (xs := endsOf R left) fun e he => ⟨_, rfl, by simp -implicitDefEqProofs [fD, ixRow (hl i hi), row_2], fun _ => by simp⟩
    have eq : gEq S (.l (((endsOf R left).filter fun e => decide (e < (rwA R i).b)).map D.int)) (.l []) = some (.v (.bl ((endsOf R left).all fun e => !decide (e < (rwA R i).b)))) := by
      rw [gEq_ll (okNs_ints _) (by simp [okNs]), eqDs_nil_r, List.isEmpty_map, filter_nil]
    simp -implicitDefEqProofs [f3, c2, wipeE, c4, eq], fun _ => by simp⟩
  simp -implicitDefEqProofs [f1, c1, wipeE, ec, f2, cm]
  rfl

/-! ### the law's own look -/
theorem ans_kd {r : Row} {m : Int} (h : r.Ok m) : ∃ k : Kd, (Ev.R.v r.ans).kd S = some k ∧ isTy k .str = false := by
  obtain ⟨_, _, _, _, h5⟩ := h
  unfold Row.ans
  cases q : r.e with
  | none => exact ⟨.non, rfl, rfl⟩
  | some p =>
    rw [q] at h5
    simp only at h5 ⊢
    have ha := h5.2.2
    cases hd : r.dd with
    | look fs => rw [hd] at ha; obtain ⟨ns, e, _⟩ := ha; exact ⟨.tuple, by rw [e]; rfl, rfl⟩
    | put fs => rw [hd] at ha; obtain ⟨ns, e, _⟩ := ha; exact ⟨.tuple, by rw [e]; rfl, rfl⟩
    | add f w => rw [hd] at ha; obtain ⟨n, e, _⟩ := ha; exact ⟨.int, by rw [e]; rfl, rfl⟩
    | move a b m => rw [hd] at ha; obtain ⟨n, e⟩ := ha; exact ⟨.bool, by rw [e]; rfl, rfl⟩
theorem held_loop {m : Int} {i : Nat} {A : Sl} (hR : ∀ r ∈ R, r.Ok m) (hi : i < R.length) : ∀ (left : List Nat) (x : Sl), (∀ j ∈ left, j < R.length) →
    ∃ x', loopF (tgName 3) bd__law_is_held_1 .no (left.map fD) [.b (R.map Row.d), A, .v (.int (i : Nat)), x] S = some (.next [.b (R.map Row.d), A, .v (.int (i : Nat)), x'] S)
  | [], x, _ => ⟨x, rfl⟩
  | j :: left, x, hl => by
    obtain ⟨x', ih⟩ := held_loop (A := A) hR hi left (.v (fD j)) fun k hk => hl k (by simp [hk])
    refine ⟨x', ?_⟩
    rw [List.map_cons, loopF_c]
    have hj := hl j (by simp)
    have hjr : (rwA R j).Ok m := hR _ (by simp [rwA, hj])
    obtain ⟨k, k1, k2⟩ := ans_kd (S := S) hjr
    have body : bd__law_is_held_1 [.b (R.map Row.d), A, .v (.int (i : Nat)), .v (fD j)] S = some (.next [.b (R.map Row.d), A, .v (.int (i : Nat)), .v (fD j)] S) := by
      unfold bd__law_is_held_1
      simp -implicitDefEqProofs [fD, ixRow hj, ixRow hi, row_0, row_4, k1, k2]
    simp -implicitDefEqProofs [body, ih]
theorem held_ok {m : Int} {i : Nat} {left : List Nat} (hR : ∀ r ∈ R, r.Ok m) (hi : i < R.length) (hl : ∀ j ∈ left, j < R.length) : ev__law_is_held [.b (R.map Row.d), .v (tN left), .v (.int (i : Nat))] S = some (.v (.bl false), S) := by
  unfold ev__law_is_held bo__law_is_held
  rw [runOf_ (ss := [.b (R.map Row.d), .v (tN left), .v (.int (i : Nat))]) (by simp) (by simp)]
  obtain ⟨x', lp⟩ := held_loop (S := S) (A := .v (tN left)) hR hi left .no hl
  have f1 : fVar 1 [.b (R.map Row.d), .v (tN left), .v (.int (i : Nat)), .no] S = some ((left.map fD, .no, true), S) := fVar_t rfl
  simp -implicitDefEqProofs [f1, lp]
theorem le_min {b : Int} {es : List Int} (h : 0 < es.length) : decide (b ≤ minL es) = es.all fun e => !decide (e < b) := by
  obtain ⟨h1, h2⟩ := minL_ok es h
  rw [Bool.eq_iff_iff]
  simp only [decide_eq_true_eq, List.all_eq_true, Bool.not_eq_true', decide_eq_false_iff_not]
  constructor
  · intro hb e he
    have := h2 e he
    omega
  · intro hh
    have := hh _ h1
    omega
/-- what may be next, by the law -/
theorem cand_ok {m : Int} {left : List Nat} {A B C D6 D8 D9 : Sl} (hR : ∀ r ∈ R, r.Ok m) (hl : ∀ i ∈ left, i < R.length) (hne : 0 < (endsOf R left).length) :
    compF (tgName 7) (eAnd (eBin gLe (eBin gIx (eBin gIx (eVar 0) (eVar 7)) (eLit (.int 2))) (eBlt gMin [eVar 4])) (eUn gNot (eCall ev__law_is_held [] [eVar 0, eVar 1, eVar 7]))) (eVar 7) .no [.b (R.map Row.d), .v (tN left), B, C, .l ((endsOf R left).map D.int), A, D6, .no, D8, D9] (left.map fD) S = some ((nextOf R left).map fD, S) := by
  rw [comp_pure (S := S) fD (fun i => (endsOf R left).all fun e => !decide (e < (rwA R i).b)) fD fun i hi => ⟨_, rfl, ?_, fun _ => by simp⟩]
  · rfl
  · have hh := held_ok (S := S) hR (hl i hi) hl
    have mn : gMin S [.b ((endsOf R left).map D.int)] = some (.v (.int (minL (endsOf R left)))) := by rw [gMin_b, if_pos hne]
    have lm := le_min (b := (rwA R i).b) hne
    by_cases hb : (rwA R i).b ≤ minL (endsOf R left)
    · rw [decide_eq_true hb] at lm
      rw [← lm]
      simp -implicitDefEqProofs [fD, ixRow (hl i hi), row_2, hne, hb, hh]
    · rw [decide_eq_false hb] at lm
      rw [← lm]
      simp -implicitDefEqProofs [fD, ixRow (hl i hi), row_2, hne, hb]
/-! ### the search -/
abbrev Kvs := List (D × D)
def tryL (R : List Row) (rec : List Nat → List Int → Kvs → Option (List Nat) × Kvs) (left : List Nat) (ws : List Int) : List Nat → Kvs → Option (List Nat) × Kvs
  | [], kvs => (none, kvs)
  | i :: is, kvs =>
    if (rwA R i).e = none ∨ (rwA R i).ans = ((rwA R i).dd.run ws).1 then
      match rec (left.filter fun j => decide (j ≠ i)) ((rwA R i).dd.run ws).2 kvs with
      | (some o, kvs') => (some (i :: o), kvs')
      | (none, kvs') => tryL R rec left ws is kvs'
    else tryL R rec left ws is kvs
def srch (R : List Row) : Nat → List Nat → List Int → Kvs → Option (List Nat) × Kvs
  | 0, _, _, kvs => (none, kvs)
  | n + 1, left, ws, kvs =>
    if endsOf R left = [] then (some [], kvs)
    else if (dLook kvs (keyN left ws)).isSome then (none, kvs)
    else match tryL R (srch R n) left ws (nextOf R left) kvs with
      | (some o, kvs') => (some o, kvs')
      | (none, kvs') => (none, kvs' ++ [(keyN left ws, .bl true)])
/-- what a search adds -/
def Adds (m : Nat) (kvs kvs' : Kvs) : Prop := ∃ ex : Kvs, kvs' = kvs ++ ex ∧ ∀ p ∈ ex, ∃ l w, p = (keyN l w, .bl true) ∧ l.length ≤ m
theorem Adds.refl {m : Nat} {kvs : Kvs} : Adds m kvs kvs := ⟨[], by simp, by simp⟩
theorem Adds.trans {m : Nat} {a b c : Kvs} (h : Adds m a b) (h' : Adds m b c) : Adds m a c := by
  obtain ⟨x, rfl, hx⟩ := h
  obtain ⟨y, rfl, hy⟩ := h'
  exact ⟨x ++ y, by simp, fun p hp => (List.mem_append.mp hp).elim (hx p) (hy p)⟩
theorem Adds.mono {m m' : Nat} {a b : Kvs} (h : Adds m a b) (hm : m ≤ m') : Adds m' a b := by
  obtain ⟨x, e, hx⟩ := h
  exact ⟨x, e, fun p hp => by
    obtain ⟨l, w, e, hl⟩ := hx p hp
    exact ⟨l, w, e, by omega⟩⟩
theorem Adds.len {m : Nat} {a b : Kvs} (h : Adds m a b) : a.length ≤ b.length := by
  obtain ⟨x, rfl, _⟩ := h
  simp
theorem filter_ne_len {left : List Nat} {i : Nat} (h : i ∈ left) : (left.filter fun j => decide (j ≠ i)).length < left.length := by
  induction left with
  | nil => cases h
  | cons a l ih =>
    rw [List.filter_cons]
    by_cases e : a = i
    · simp only [e, ne_eq, not_true_eq_false, decide_false, Bool.false_eq_true, if_false, List.length_cons]
      exact Nat.lt_succ_of_le (List.length_filter_le _ _)
    · simp only [ne_eq, e, not_false_eq_true, decide_true, if_true, List.length_cons]
      rcases List.mem_cons.mp h with rfl | h
      · exact absurd rfl e
      · exact Nat.succ_lt_succ (ih h)
theorem tryL_adds {rec : List Nat → List Int → Kvs → Option (List Nat) × Kvs} {left : List Nat} {ws : List Int} {m : Nat} (hrec : ∀ i ∈ left, ∀ w kvs, Adds m kvs (rec (left.filter fun j => decide (j ≠ i)) w kvs).2) : ∀ (is : List Nat) (kvs : Kvs), (∀ i ∈ is, i ∈ left) → Adds m kvs (tryL R rec left ws is kvs).2
  | [], kvs, _ => .refl
  | i :: is, kvs, h => by
    rw [tryL]
    have hi := h i (by simp)
    have ht := fun k => tryL_adds hrec (ws := ws) is k fun j hj => h j (by simp [hj])
    split
    · have hr := hrec i hi ((rwA R i).dd.run ws).2 kvs
      split
      · rename_i o kvs' e
        rw [e] at hr
        exact hr
      · rename_i kvs' e
        rw [e] at hr
        exact hr.trans (ht kvs')
    · exact ht kvs
theorem srch_adds : ∀ (n : Nat) (left : List Nat) (ws : List Int) (kvs : Kvs), Adds left.length kvs (srch R n left ws kvs).2
  | 0, _, _, _ => .refl
  | n + 1, left, ws, kvs => by
    rw [srch]
    split
    · exact .refl
    · split
      · exact .refl
      · have ht : Adds left.length kvs (tryL R (srch R n) left ws (nextOf R left) kvs).2 := tryL_adds (fun i hi w k => (srch_adds n _ w k).mono (Nat.le_of_lt (filter_ne_len hi))) _ _ fun i hi => (List.mem_filter.mp hi).1
        split
        · rename_i o kvs' e
          rw [e] at ht
          exact ht
        · rename_i kvs' e
          rw [e] at ht
          exact ht.trans ⟨[(keyN left ws, .bl true)], rfl, fun p hp => ⟨left, ws, List.mem_singleton.mp hp, Nat.le_refl _⟩⟩

theorem key_inj {l l' : List Nat} {w w' : List Int} (h : keyN l w = keyN l' w') : l.length = l'.length := by
  unfold keyN tN at h
  injection h with h
  injection h with h1 h2
  injection h1 with h1
  have := congrArg List.length h1
  simpa using this
theorem look_append {a b : Kvs} {k : D} : dLook (a ++ b) k = (dLook a k).or (dLook b k) := by
  unfold dLook
  rw [List.find?_append]
  cases a.find? (fun p => decide (p.1 = k)) <;> rfl
theorem look_adds {m : Nat} {kvs kvs' : Kvs} {left : List Nat} {ws : List Int} (h : Adds m kvs kvs') (hm : m < left.length) (hn : dLook kvs (keyN left ws) = none) : dLook kvs' (keyN left ws) = none := by
  obtain ⟨ex, rfl, hx⟩ := h
  rw [look_append, hn]
  show dLook ex (keyN left ws) = none
  unfold dLook
  cases q : ex.find? (fun p => decide (p.1 = keyN left ws)) with
  | none => rfl
  | some p =>
    exfalso
    obtain ⟨l, w, rfl, hl⟩ := hx p (List.mem_of_find?_eq_some q)
    have hp := List.find?_some q
    simp only [decide_eq_true_eq] at hp
    have := key_inj hp
    omega
theorem key_ok {left : List Nat} {ws : List Int} : keyOk .N (keyN left ws) = true := by
  show (nest1 [tN left, tW ws]).isSome = true
  unfold tN tW
  rw [fD_ints]
  simp only [nest1, ints1_map]
  rfl
theorem rest_comp {ρ : Env} {k c i : Nat} {left : List Nat} (h0 : ρ[c]? = some (.v (.int (i : Nat)))) (hk : c ≠ k) (hk2 : k < ρ.length) :
    compF (tgName k) (eBin gNe (eVar k) (eVar c)) (eVar k) .no ρ (left.map fD) S = some ((left.filter fun j => decide (j ≠ i)).map fD, S) := by
  refine comp_pure (S := S) fD (fun j => decide (j ≠ i)) fD fun j hj => ⟨_, rfl, ?_, fun _ => ?_⟩
  · have a0 : (ρ.set k (.v (fD j)))[c]? = some (.v (.int (i : Nat))) := by rw [List.getElem?_set_ne (Ne.symm hk)]; exact h0
    have ak : (ρ.set k (.v (fD j)))[k]? = some (.v (fD j)) := by rw [List.getElem?_set_self hk2]
    have e : (decide ((j : Int) = (i : Int))) = decide (j = i) := by
      by_cases h : j = i
      · subst h; simp
      · rw [decide_eq_false h, decide_eq_false (by omega)]
    simp -implicitDefEqProofs only [eBin_, eVar_, a0, ak, rdSl_v, Option.map_some, bnd_s]
    simp -implicitDefEqProofs only [fD, gNeI, Option.map_some, e]
    by_cases h : j = i <;> simp [h]
  · have ak : (ρ.set k (.v (fD j)))[k]? = some (.v (fD j)) := by rw [List.getElem?_set_self hk2]
    simp -implicitDefEqProofs only [eVar_, ak, rdSl_v, Option.map_some]
def resR : Option (List Nat) → Ev.R
  | none => .v .non
  | some o => .l (o.map fD)
/-- the promise of the program's search at a depth -/
def OrderP (R : List Row) (n : Nat) (run : Ru) : Prop := ∀ (S : Store) (h : Nat) (left : List Nat) (ws : List Int) (kvs : Kvs), left.length < n → (∀ i ∈ left, i < R.length) → Ws ws → S[h]? = some (.dic .N kvs) → (srch R n left ws kvs).2.length ≤ cap →
  run [.b (R.map Row.d), .v (tN left), .v (tW ws), .v (.ob h)] S = some (resR (srch R n left ws kvs).1, S.set h (.dic .N (srch R n left ws kvs).2))
/-- .. of the law's -/
def FitsP (R : List Row) (n : Nat) (run : Ru) : Prop := ∀ (S : Store) (h : Nat) (left : List Nat) (ws : List Int) (kvs : Kvs), left.length < n → (∀ i ∈ left, i < R.length) → Ws ws → S[h]? = some (.dic .N kvs) → (srch R n left ws kvs).2.length ≤ cap →
  run [.b (R.map Row.d), .v (tN left), .v (tW ws), .v (.ob h)] S = some (.v (.bl (srch R n left ws kvs).1.isSome), S.set h (.dic .N (srch R n left ws kvs).2))
theorem srch_len : ∀ (n : Nat) (left : List Nat) (ws : List Int) (kvs : Kvs) (o : List Nat), (srch R n left ws kvs).1 = some o → o.length ≤ n
  | 0, _, _, _, _, h => by cases h
  | n + 1, left, ws, kvs, o, h => by
    have tl : ∀ (is : List Nat) (kvs : Kvs) (o : List Nat), (tryL R (srch R n) left ws is kvs).1 = some o → o.length ≤ n + 1 := by
      intro is
      induction is with
      | nil => intro kvs o h; cases h
      | cons i is ih =>
        intro kvs o h
        rw [tryL] at h
        split at h
        · split at h
          · rename_i o' kvs' e
            cases h
            have := srch_len n _ _ kvs o' (by rw [e])
            simp
            omega
          · exact ih _ _ h
        · exact ih _ _ h
    rw [srch] at h
    split at h
    · cases h; simp
    · split at h
      · cases h
      · split at h
        · rename_i o' kvs' e
          cases h
          exact tl _ kvs o (by rw [e])
        · cases h
def nextO (R : List Row) (left : List Nat) (ws : List Int) (h i : Nat) (a : D) (w' : List Int) (A7 A8 A9 : Sl) : Env := [.b (R.map Row.d), .v (tN left), .v (tW ws), .v (.ob h), .v (fD i), .v a, .v (tW w'), A7, A8, A9]
theorem order_body {run : Ru} {rest left : List Nat} {ws w' : List Int} {i h : Nat} {a : D} {t : Bool} {dd : Deed} {o : Option (List Nat)} {S' : Store} {A5 A6 A7 A8 A9 : Sl} (hiR : i < R.length) (hdd : (rwA R i).dd = dd)
    (dn : ev_done [.v (tW ws), .v dd.d] S = some (.v (.tup [a, tW w']), S))
    (test : ∀ A6' A7' A8' A9' : Sl, (eOr (eUn gIsN (eBin gIx (eBin gIx (eVar 0) (eVar 4)) (eLit (.int 3)))) (eCall ev_like [] [eBin gIx (eBin gIx (eVar 0) (eVar 4)) (eLit (.int 4)), eVar 5])) [.b (R.map Row.d), .v (tN left), .v (tW ws), .v (.ob h), .v (fD i), .v a, A6', A7', A8', A9'] S = some (.v (.bl t), S))
    (restc : ∀ A5' A6' A7' A8' : Sl, compF (tgName 9) (eBin gNe (eVar 9) (eVar 4)) (eVar 9) .no [.b (R.map Row.d), .v (tN left), .v (tW ws), .v (.ob h), .v (fD i), A5', A6', A7', A8', .no] (left.map fD) S = some (rest.map fD, S))
    (c1 : left.length ≤ cap) (oc : ∀ x, o = some x → 1 + x.length ≤ cap)
    (recc : t = true → run [.b (R.map Row.d), .v (tN rest), .v (tW w'), .v (.ob h)] S = some (resR o, S')) :
    bd_order_of_1 run [.b (R.map Row.d), .v (tN left), .v (tW ws), .v (.ob h), .v (fD i), A5, A6, A7, A8, A9] S = if t then (match o with
      | some x => some (.ret (.l (fD i :: x.map fD)) S')
      | none => some (.next (nextO R left ws h i a w' (.v (tN rest)) (.v .non) A9) S')) else some (.next (nextO R left ws h i a w' A7 A8 A9) S) := by
  have ix1 : gIx S (.b (R.map Row.d)) (.v (fD i)) = some (.v (rwA R i).d) := ixRow hiR
  have fv := fun (A5' A6' A7' A8' A9' : Sl) => fVar_t (S := S) (ρ := [.b (R.map Row.d), .v (tN left), .v (tW ws), .v (.ob h), .v (fD i), A5', A6', A7', A8', A9']) (i := 1) (xs := left.map fD) rfl
  have r1 : gIx S (.v (rwA R i).d) (.v (.int 1)) = some (.v dd.d) := by rw [row_1, hdd]
  have te : (eBlt gTuple [eComp (fVar 1) (tgName 9) [9] (eBin gNe (eVar 9) (eVar 4)) (eVar 9)]) [.b (R.map Row.d), .v (tN left), .v (tW ws), .v (.ob h), .v (fD i), .v a, .v (tW w'), A7, A8, A9] S = some (.v (tN rest), S) := by
    simp -implicitDefEqProofs [fv, c1, wipeE, restc]
    rfl
  unfold bd_order_of_1 nextO
  cases t with
  | false => simp -implicitDefEqProofs [-eOr_, ix1, r1, dn, test]
  | true =>
    have recc := recc rfl
    cases o with
    | none => simp -implicitDefEqProofs [-eOr_, -eBlt_, ix1, r1, dn, test, te, recc, resR]
    | some x =>
      have oc := oc x rfl
      have cat : gAdd S' (.l [fD i]) (.b (x.map fD)) = some (.l (fD i :: x.map fD)) := by
        show Ev.R.cat S' (.l [fD i]) (.b (x.map fD)) = _
        unfold Ev.R.cat
        simp only [Ev.R.tlst, List.length_cons, List.length_nil, List.length_map, Nat.zero_add, if_pos oc]
        rfl
      simp -implicitDefEqProofs [-eOr_, -eBlt_, ix1, r1, dn, test, te, recc, resR, cat]
theorem set_same {h : Nat} {o : Ob} (hS : S[h]? = some o) : S.set h o = S := by
  have q := (List.getElem?_eq_some_iff.mp hS).2
  rw [← q]
  simp
theorem order_loop {m : Int} {n : Nat} {run : Ru} {h : Nat} {left : List Nat} {ws : List Int} (hR : ∀ r ∈ R, r.Ok m) (ih : OrderP R n run) (hn : left.length < n + 1) (hn2 : n ≤ 1000) (hl : ∀ i ∈ left, i < R.length) (hw : Ws ws) : ∀ (is : List Nat) (S : Store) (kvs : Kvs) (A4 A5 A6 A7 A8 A9 : Sl), (∀ i ∈ is, i ∈ left) → S[h]? = some (.dic .N kvs) → (tryL R (srch R n) left ws is kvs).2.length ≤ cap →
    match tryL R (srch R n) left ws is kvs with
    | (some o, kvs') => loopF (tgName 4) (bd_order_of_1 run) .no (is.map fD) [.b (R.map Row.d), .v (tN left), .v (tW ws), .v (.ob h), A4, A5, A6, A7, A8, A9] S = some (.ret (.l (o.map fD)) (S.set h (.dic .N kvs')))
    | (none, kvs') => ∃ B4 B5 B6 B7 B8 B9, loopF (tgName 4) (bd_order_of_1 run) .no (is.map fD) [.b (R.map Row.d), .v (tN left), .v (tW ws), .v (.ob h), A4, A5, A6, A7, A8, A9] S = some (.next [.b (R.map Row.d), .v (tN left), .v (tW ws), .v (.ob h), B4, B5, B6, B7, B8, B9] (S.set h (.dic .N kvs')))
  | [], S, kvs, A4, A5, A6, A7, A8, A9, _, hS, _ => by
    show ∃ B4 B5 B6 B7 B8 B9, _
    rw [set_same hS]
    exact ⟨A4, A5, A6, A7, A8, A9, rfl⟩
  | i :: is, S, kvs, A4, A5, A6, A7, A8, A9, his, hS, hcap => by
    have hi := his i (by simp)
    have his' : ∀ j ∈ is, j ∈ left := fun j hj => his j (by simp [hj])
    have hiR := hl i hi
    have hr : (rwA R i).Ok m := hR _ (by simp [rwA, hiR])
    have hdd := hr.2.1
    have dn := done_ok (S := S) hw.1 hdd
    have rk := run_ok hw hdd
    have hlt : h < S.length := (List.getElem?_eq_some_iff.mp hS).1
    have c1 : left.length ≤ cap := Nat.le_trans (show left.length ≤ 1001 by omega) (by decide)
    rw [List.map_cons, loopF_c]
    have test : ∀ A6' A7' A8' A9' : Sl, (eOr (eUn gIsN (eBin gIx (eBin gIx (eVar 0) (eVar 4)) (eLit (.int 3)))) (eCall ev_like [] [eBin gIx (eBin gIx (eVar 0) (eVar 4)) (eLit (.int 4)), eVar 5])) [.b (R.map Row.d), .v (tN left), .v (tW ws), .v (.ob h), .v (fD i), .v ((rwA R i).dd.run ws).1, A6', A7', A8', A9'] S = some (.v (.bl (decide ((rwA R i).e = none ∨ (rwA R i).ans = ((rwA R i).dd.run ws).1))), S) := by
      intro A6' A7' A8' A9'
      cases q : (rwA R i).e with
      | none => simp -implicitDefEqProofs [fD, ixRow hiR, row_3, Row.end_, q]
      | some p =>
        have h5 := hr.2.2.2.2
        rw [q] at h5
        simp only at h5
        have lk := like_ok (S := S) h5.2.2 rk.1
        have ea : (rwA R i).ans = p.2 := by unfold Row.ans; rw [q]
        simp -implicitDefEqProofs [fD, ixRow hiR, row_3, row_4, Row.end_, q, ea, lk]
    have restc := fun (A5' A6' A7' A8' : Sl) => rest_comp (S := S) (ρ := [.b (R.map Row.d), .v (tN left), .v (tW ws), .v (.ob h), .v (fD i), A5', A6', A7', A8', .no]) (k := 9) (c := 4) (i := i) (left := left) rfl (by decide) (by simp)
    rw [tryL] at hcap ⊢
    have tg : tgName 4 (fD i) [.b (R.map Row.d), .v (tN left), .v (tW ws), .v (.ob h), A4, A5, A6, A7, A8, A9] = some [.b (R.map Row.d), .v (tN left), .v (tW ws), .v (.ob h), .v (fD i), A5, A6, A7, A8, A9] := rfl
    rw [tg, Option.bind_some]
    by_cases ht : (rwA R i).e = none ∨ (rwA R i).ans = ((rwA R i).dd.run ws).1
    · rw [if_pos ht] at hcap ⊢
      rw [decide_eq_true ht] at test
      have hlen := filter_ne_len hi
      have sub : ∀ j ∈ left.filter (fun j => decide (j ≠ i)), j < R.length := fun j hj => hl j (List.mem_filter.mp hj).1
      have recc := ih S h (left.filter fun j => decide (j ≠ i)) ((rwA R i).dd.run ws).2 kvs (by omega) sub rk.2 hS
      have ol := srch_len (R := R) n (left.filter fun j => decide (j ≠ i)) ((rwA R i).dd.run ws).2 kvs
      generalize left.filter (fun j => decide (j ≠ i)) = rest at *
      cases q : srch R n rest ((rwA R i).dd.run ws).2 kvs with
      | mk o kvs1 =>
        rw [q] at recc hcap ol
        cases o with
        | some o =>
          simp only at hcap ⊢
          have recc := recc hcap
          have oc : ∀ x, some o = some x → 1 + x.length ≤ cap := fun x e => by
            have := ol x e
            exact Nat.le_trans (show 1 + x.length ≤ 1001 by omega) (by decide)
          rw [order_body (o := some o) (t := true) hiR rfl dn test restc c1 oc fun _ => recc]
          rfl
        | none =>
          simp only at hcap ⊢
          have add2 : Adds left.length kvs1 (tryL R (srch R n) left ws is kvs1).2 := tryL_adds (fun i hi w k => (srch_adds n _ w k).mono (Nat.le_of_lt (filter_ne_len hi))) _ _ his'
          have recc := recc (Nat.le_trans add2.len hcap)
          rw [order_body (o := none) (t := true) hiR rfl dn test restc c1 (fun x e => by cases e) fun _ => recc]
          have hS1 : (S.set h (.dic .N kvs1))[h]? = some (.dic .N kvs1) := List.getElem?_set_self hlt
          have lp := order_loop hR ih hn hn2 hl hw is (S.set h (.dic .N kvs1)) kvs1 (.v (fD i)) (.v ((rwA R i).dd.run ws).1) (.v (tW ((rwA R i).dd.run ws).2)) (.v (tN rest)) (.v .non) A9 his' hS1 hcap
          simp only [if_true, stepL_x]
          unfold nextO
          cases q2 : tryL R (srch R n) left ws is kvs1 with
          | mk o2 kvs2 =>
            rw [q2] at lp
            cases o2 with
            | some o2 => simp only [List.set_set] at lp ⊢; exact lp
            | none => simp only [List.set_set] at lp ⊢; exact lp
    · rw [if_neg ht] at hcap ⊢
      rw [decide_eq_false ht] at test
      rw [order_body (o := none) (t := false) (S' := S) hiR rfl dn test restc c1 (fun x e => by cases e) fun z => by cases z]
      have lp := order_loop hR ih hn hn2 hl hw is S kvs (.v (fD i)) (.v ((rwA R i).dd.run ws).1) (.v (tW ((rwA R i).dd.run ws).2)) A7 A8 A9 his' hS hcap
      simp only [Bool.false_eq_true, if_false, stepL_x]
      unfold nextO
      exact lp
end
end Ev

set_option Elab.async false
set_option linter.all false
set_option maxRecDepth 100000
set_option maxHeartbeats 4000000
/-! The searches, whole. -/
namespace Ev
open PySem L2
section
variable {S : Store} {R : List Row}
theorem ends_nil {left : List Nat} : ((left.filter (hasE R)).isEmpty) = decide (endsOf R left = []) := by
  unfold endsOf
  cases left.filter (hasE R) <;> simp
theorem has_comp {ρ : Env} {k : Nat} {left : List Nat} (h0 : ρ[0]? = some (.b (R.map Row.d))) (hk : 0 < k) (hk2 : k < ρ.length) (hl : ∀ i ∈ left, i < R.length) :
    compF (tgName k) (eUn gNotN (eBin gIx (eBin gIx (eVar 0) (eVar k)) (eLit (.int 3)))) (eVar k) .no ρ (left.map fD) S = some ((left.filter (hasE R)).map fD, S) := by
  refine comp_pure (S := S) fD (hasE R) fD fun i hi => ⟨_, rfl, ?_, fun hp => ?_⟩
  · have a0 : (ρ.set k (.v (.int (i : Nat))))[0]? = some (.b (R.map Row.d)) := by rw [List.getElem?_set_ne (by omega)]; exact h0
    have ak : (ρ.set k (.v (.int (i : Nat))))[k]? = some (.v (.int (i : Nat))) := by rw [List.getElem?_set_self hk2]
    simp -implicitDefEqProofs only [fD, eUn_, eBin_, eVar_, eLit_, a0, ak, rdSl_b, rdSl_v, Option.map_some, bnd_s, ixRow (hl i hi), row_3, gNotN_, isNone_v, end_non, Bool.not_not]
    rfl
  · have ak : (ρ.set k (.v (fD i)))[k]? = some (.v (fD i)) := by rw [List.getElem?_set_self hk2]
    simp -implicitDefEqProofs only [eVar_, ak, rdSl_v, Option.map_some]
theorem in_dead {h : Nat} {kvs : Kvs} {left : List Nat} {ws : List Int} (hS : S[h]? = some (.dic .N kvs)) : gIn S (.v (keyN left ws)) (.v (.ob h)) = some (.v (.bl (dLook kvs (keyN left ws)).isSome)) := by
  simp [gIn, inR, R.dicR, hS, key_ok]
theorem put_dead {kvs : Kvs} {left : List Nat} {ws : List Int} (hc : kvs.length < cap) (hn : dLook kvs (keyN left ws) = none) : putOb (.dic .N kvs) (keyN left ws) (.bl true) = some (.dic .N (kvs ++ [(keyN left ws, .bl true)])) := by
  simp [putOb, key_ok, hc, hn]
theorem order_ok {m : Int} (hR : ∀ r ∈ R, r.Ok m) : ∀ n, n ≤ 1000 → OrderP R n (ev_order_of n)
  | 0, _ => fun S h left ws kvs hn => absurd hn (Nat.not_lt_zero _)
  | n + 1, hn2 => by
    intro S h left ws kvs hn hl hw hS hcap
    have ih := order_ok hR n (by omega)
    have hlt : h < S.length := (List.getElem?_eq_some_iff.mp hS).1
    have c1 : left.length ≤ cap := Nat.le_trans (show left.length ≤ 1001 by omega) (by decide)
    show runOf 10 (bo_order_of (ev_order_of n)) _ S = _
    unfold bo_order_of
    rw [runOf_ (ss := [.b (R.map Row.d), .v (tN left), .v (tW ws), .v (.ob h)]) (by simp) (by simp)]
    have f1 : fVar 1 [.b (R.map Row.d), .v (tN left), .v (tW ws), .v (.ob h), .no, .no, .no, .no, .no, .no] S = some ((left.map fD, .no, true), S) := fVar_t rfl
    have hc := has_comp (S := S) (R := R) (ρ := [.b (R.map Row.d), .v (tN left), .v (tW ws), .v (.ob h), .no, .no, .no, .no, .no, .no]) (k := 4) (left := left) rfl (by decide) (by simp) hl
    have eq : gEq S (.l ((left.filter (hasE R)).map fD)) (.l []) = some (.v (.bl (decide (endsOf R left = [])))) := by
      rw [fD_ints, gEq_ll (okNs_ints _) (by simp [okNs]), eqDs_nil_r, List.isEmpty_map, List.isEmpty_map, ends_nil]
    have inn := in_dead (left := left) (ws := ws) hS
    have nx := next_ok (S := S) (R := R) hl (show left.length ≤ 1000 by omega)
    rw [srch] at hcap ⊢
    by_cases h1 : endsOf R left = []
    · rw [if_pos h1] at hcap ⊢
      rw [decide_eq_true h1] at eq
      rw [set_same hS]
      simp -implicitDefEqProofs [f1, c1, wipeE, hc, eq, resR]
    · rw [if_neg h1] at hcap ⊢
      rw [decide_eq_false h1] at eq
      have kt : (eTup [eVar 1, eVar 2]) [.b (R.map Row.d), .v (tN left), .v (tW ws), .v (.ob h), .no, .no, .no, .no, .no, .no] S = some (.v (keyN left ws), S) := by simp -implicitDefEqProofs; rfl
      by_cases h2 : (dLook kvs (keyN left ws)).isSome = true
      · rw [if_pos h2] at hcap ⊢
        rw [h2] at inn
        rw [set_same hS]
        simp -implicitDefEqProofs [-eTup_, f1, c1, wipeE, hc, eq, kt, inn, resR]
      · rw [if_neg h2] at hcap ⊢
        have h2' : (dLook kvs (keyN left ws)).isSome = false := by simpa using h2
        rw [h2'] at inn
        have h3 : dLook kvs (keyN left ws) = none := by simpa using h2
        have add1 : Adds (left.length - 1) kvs (tryL R (srch R n) left ws (nextOf R left) kvs).2 := tryL_adds (fun i hi w k => (srch_adds n _ w k).mono (by have := filter_ne_len hi; omega)) _ _ fun i hi => (List.mem_filter.mp hi).1
        have hpos : 0 < left.length := by
          cases left with
          | nil => exact absurd rfl h1
          | cons a l => simp
        have nin : ∀ i ∈ nextOf R left, i ∈ left := fun i hi => (List.mem_filter.mp hi).1
        cases q : tryL R (srch R n) left ws (nextOf R left) kvs with
        | mk o kvs1 =>
          rw [q] at hcap add1
          have lp := order_loop hR ih hn (by omega) hl hw (nextOf R left) S kvs .no .no .no .no .no .no nin hS
          rw [q] at lp
          cases o with
          | some o =>
            have lp := lp hcap
            simp only at lp ⊢
            simp -implicitDefEqProofs [-eTup_, f1, c1, wipeE, hc, eq, kt, inn, nx, lp, resR]
          | none =>
            simp only at hcap
            rw [List.length_append] at hcap
            have hc1 : kvs1.length < cap := by simp at hcap; omega
            obtain ⟨B4, B5, B6, B7, B8, B9, lp⟩ := lp (Nat.le_of_lt hc1)
            have h4 := look_adds (left := left) (ws := ws) add1 (by omega) h3
            have kt2 : (eTup [eVar 1, eVar 2]) [.b (R.map Row.d), .v (tN left), .v (tW ws), .v (.ob h), B4, B5, B6, B7, B8, B9] (S.set h (.dic .N kvs1)) = some (.v (keyN left ws), S.set h (.dic .N kvs1)) := by simp -implicitDefEqProofs; rfl
            have hS1 : (S.set h (.dic .N kvs1))[h]? = some (.dic .N kvs1) := List.getElem?_set_self hlt
            simp -implicitDefEqProofs [-eTup_, f1, c1, wipeE, hc, eq, kt, inn, nx, lp, kt2, put_dead hc1 h4, resR, hlt]
end
end Ev

set_option Elab.async false
set_option linter.all false
set_option maxRecDepth 100000
set_option maxHeartbeats 4000000
/-! The law's search. -/
namespace Ev
open PySem L2
section
variable {S : Store} {R : List Row}
def envF (R : List Row) (left : List Nat) (ws : List Int) (h : Nat) (A5 A6 A7 A8 A9 : Sl) : Env := [.b (R.map Row.d), .v (tN left), .v (tW ws), .v (.ob h), .l ((endsOf R left).map D.int), A5, A6, A7, A8, A9]
theorem fits_body {m : Int} {run : Ru} {rest left : List Nat} {ws w' : List Int} {i h : Nat} {a : D} {t b : Bool} {dd : Deed} {S' : Store} {A6 A7 A8 A9 : Sl} (hiR : i < R.length) (hdd : (rwA R i).dd = dd)
    (dn : ev__law_done [.v (tW ws), .v dd.d] S = some (.v (.tup [a, tW w']), S))
    (test : ∀ A7' A9' : Sl, (eOr (eUn gIsN (eBin gIx (eBin gIx (eVar 0) (eVar 5)) (eLit (.int 3)))) (eOr (eIsi .str (eVar 6)) (eCall (ev__law_alike 40) [] [eVar 6, eVar 8]))) (envF R left ws h (.v (fD i)) (.v (rwA R i).ans) A7' (.v a) A9') S = some (.v (.bl t), S))
    (restc : ∀ A6' A8' A9' : Sl, compF (tgName 7) (eBin gNe (eVar 7) (eVar 5)) (eVar 7) .no (envF R left ws h (.v (fD i)) A6' .no A8' A9') (left.map fD) S = some (rest.map fD, S))
    (c1 : left.length ≤ cap)
    (recc : t = true → run [.b (R.map Row.d), .v (tN rest), .v (tW w'), .v (.ob h)] S = some (.v (.bl b), S')) :
    bd__law_fits_1 run (envF R left ws h (.v (fD i)) A6 A7 A8 A9) S = if t then (if b then some (.ret (.v (.bl true)) S') else some (.next (envF R left ws h (.v (fD i)) (.v (rwA R i).ans) A7 (.v a) (.v (tW w'))) S'))
      else some (.next (envF R left ws h (.v (fD i)) (.v (rwA R i).ans) A7 (.v a) (.v (tW w'))) S) := by
  have ix1 : gIx S (.b (R.map Row.d)) (.v (fD i)) = some (.v (rwA R i).d) := ixRow hiR
  have fv : ∀ A5' A6' A7' A8' A9', fVar 1 (envF R left ws h A5' A6' A7' A8' A9') S = some ((left.map fD, .no, true), S) := fun A5' A6' A7' A8' A9' => fVar_t (S := S) (i := 1) (xs := left.map fD) rfl
  have r1 : gIx S (.v (rwA R i).d) (.v (.int 1)) = some (.v dd.d) := by rw [row_1, hdd]
  have te : (eBlt gTuple [eComp (fVar 1) (tgName 7) [7] (eBin gNe (eVar 7) (eVar 5)) (eVar 7)]) (envF R left ws h (.v (fD i)) (.v (rwA R i).ans) A7 (.v a) (.v (tW w'))) S = some (.v (tN rest), S) := by
    have wp : wipeE (envF R left ws h (.v (fD i)) (.v (rwA R i).ans) A7 (.v a) (.v (tW w'))) [7] = envF R left ws h (.v (fD i)) (.v (rwA R i).ans) .no (.v a) (.v (tW w')) := rfl
    simp -implicitDefEqProofs [fv, c1, wp, restc]
    rfl
  unfold bd__law_fits_1
  have s1 : (sUnp [8, 9] (eCall ev__law_done [] [eVar 2, eBin gIx (eBin gIx (eVar 0) (eVar 5)) (eLit (.int 1))])) (envF R left ws h (.v (fD i)) A6 A7 A8 A9) S = some (.next (envF R left ws h (.v (fD i)) A6 A7 (.v a) (.v (tW w'))) S) := by
    unfold envF
    simp -implicitDefEqProofs [ix1, r1, dn]
  have s2 : (sAsg 6 (eBin gIx (eBin gIx (eVar 0) (eVar 5)) (eLit (.int 4)))) (envF R left ws h (.v (fD i)) A6 A7 (.v a) (.v (tW w'))) S = some (.next (envF R left ws h (.v (fD i)) (.v (rwA R i).ans) A7 (.v a) (.v (tW w'))) S) := by
    unfold envF
    simp -implicitDefEqProofs [ix1, row_4]
  rw [sSeq_, s1, thenS_x, sSeq_, s2, thenS_x, sIf_, test, bnd_s, Ev.R.bool_bl, iteB_s]
  cases t with
  | false => rfl
  | true =>
    have recc := recc rfl
    have v0 : eVar 0 (envF R left ws h (.v (fD i)) (.v (rwA R i).ans) A7 (.v a) (.v (tW w'))) S = some (.b (R.map Row.d), S) := rfl
    have v9 : eVar 9 (envF R left ws h (.v (fD i)) (.v (rwA R i).ans) A7 (.v a) (.v (tW w'))) S = some (.v (tW w'), S) := rfl
    have v3 : eVar 3 (envF R left ws h (.v (fD i)) (.v (rwA R i).ans) A7 (.v a) (.v (tW w'))) S = some (.v (.ob h), S) := rfl
    simp only [if_true, sIf_, eCall_, eArgs_c, eArgs_n, v0, v9, v3, te, bnd_s, recc, Ev.R.bool_bl, iteB_s, sRet_, eLit_, may_v, sNil_]
theorem fits_loop {m : Int} {n : Nat} {run : Ru} {h : Nat} {left : List Nat} {ws : List Int} (hR : ∀ r ∈ R, r.Ok m) (ih : FitsP R n run) (hn : left.length < n + 1) (hn2 : n ≤ 1000) (hl : ∀ i ∈ left, i < R.length) (hw : Ws ws) : ∀ (is : List Nat) (S : Store) (kvs : Kvs) (A5 A6 A7 A8 A9 : Sl), (∀ i ∈ is, i ∈ left) → S[h]? = some (.dic .N kvs) → (tryL R (srch R n) left ws is kvs).2.length ≤ cap →
    match tryL R (srch R n) left ws is kvs with
    | (some o, kvs') => loopF (tgName 5) (bd__law_fits_1 run) .no (is.map fD) (envF R left ws h A5 A6 A7 A8 A9) S = some (.ret (.v (.bl true)) (S.set h (.dic .N kvs')))
    | (none, kvs') => ∃ B5 B6 B7 B8 B9, loopF (tgName 5) (bd__law_fits_1 run) .no (is.map fD) (envF R left ws h A5 A6 A7 A8 A9) S = some (.next (envF R left ws h B5 B6 B7 B8 B9) (S.set h (.dic .N kvs')))
  | [], S, kvs, A5, A6, A7, A8, A9, _, hS, _ => by
    show ∃ B5 B6 B7 B8 B9, _
    rw [set_same hS]
    exact ⟨A5, A6, A7, A8, A9, rfl⟩
  | i :: is, S, kvs, A5, A6, A7, A8, A9, his, hS, hcap => by
    have hi := his i (by simp)
    have his' : ∀ j ∈ is, j ∈ left := fun j hj => his j (by simp [hj])
    have hiR := hl i hi
    have hr : (rwA R i).Ok m := hR _ (by simp [rwA, hiR])
    have hdd := hr.2.1
    have dn := law_done_ok (S := S) hw.1 hdd
    have rk := run_ok hw hdd
    have hlt : h < S.length := (List.getElem?_eq_some_iff.mp hS).1
    have c1 : left.length ≤ cap := Nat.le_trans (show left.length ≤ 1001 by omega) (by decide)
    rw [List.map_cons, loopF_c]
    have test : ∀ A7' A9' : Sl, (eOr (eUn gIsN (eBin gIx (eBin gIx (eVar 0) (eVar 5)) (eLit (.int 3)))) (eOr (eIsi .str (eVar 6)) (eCall (ev__law_alike 40) [] [eVar 6, eVar 8]))) (envF R left ws h (.v (fD i)) (.v (rwA R i).ans) A7' (.v ((rwA R i).dd.run ws).1) A9') S = some (.v (.bl (decide ((rwA R i).e = none ∨ (rwA R i).ans = ((rwA R i).dd.run ws).1))), S) := by
      intro A7' A9'
      unfold envF
      obtain ⟨k, k1, k2⟩ := ans_kd (S := S) hr
      cases q : (rwA R i).e with
      | none => simp -implicitDefEqProofs [fD, ixRow hiR, row_3, Row.end_, q]
      | some p =>
        have h5 := hr.2.2.2.2
        rw [q] at h5
        simp only at h5
        have lk := alike_ok (S := S) (n := 38) hdd h5.2.2 rk.1
        have ea : (rwA R i).ans = p.2 := by unfold Row.ans; rw [q]
        rw [ea] at k1
        simp -implicitDefEqProofs [fD, ixRow hiR, row_3, row_4, Row.end_, q, ea, lk, k1, k2]
    have restc := fun (A6' A8' A9' : Sl) => rest_comp (S := S) (ρ := envF R left ws h (.v (fD i)) A6' .no A8' A9') (k := 7) (c := 5) (i := i) (left := left) rfl (by decide) (by simp [envF])
    rw [tryL] at hcap ⊢
    have tg : tgName 5 (fD i) (envF R left ws h A5 A6 A7 A8 A9) = some (envF R left ws h (.v (fD i)) A6 A7 A8 A9) := rfl
    rw [tg, Option.bind_some]
    by_cases ht : (rwA R i).e = none ∨ (rwA R i).ans = ((rwA R i).dd.run ws).1
    · rw [if_pos ht] at hcap ⊢
      rw [decide_eq_true ht] at test
      have hlen := filter_ne_len hi
      have sub : ∀ j ∈ left.filter (fun j => decide (j ≠ i)), j < R.length := fun j hj => hl j (List.mem_filter.mp hj).1
      have recc := ih S h (left.filter fun j => decide (j ≠ i)) ((rwA R i).dd.run ws).2 kvs (by omega) sub rk.2 hS
      generalize left.filter (fun j => decide (j ≠ i)) = rest at *
      cases q : srch R n rest ((rwA R i).dd.run ws).2 kvs with
      | mk o kvs1 =>
        rw [q] at recc hcap
        cases o with
        | some o =>
          simp only at hcap ⊢
          have recc := recc hcap
          rw [fits_body (m := m) (t := true) (b := true) hiR rfl dn test restc c1 fun _ => recc]
          rfl
        | none =>
          simp only at hcap ⊢
          have add2 : Adds left.length kvs1 (tryL R (srch R n) left ws is kvs1).2 := tryL_adds (fun i hi w k => (srch_adds n _ w k).mono (Nat.le_of_lt (filter_ne_len hi))) _ _ his'
          have recc := recc (Nat.le_trans add2.len hcap)
          rw [fits_body (m := m) (t := true) (b := false) hiR rfl dn test restc c1 fun _ => recc]
          have hS1 : (S.set h (.dic .N kvs1))[h]? = some (.dic .N kvs1) := List.getElem?_set_self hlt
          have lp := fits_loop hR ih hn hn2 hl hw is (S.set h (.dic .N kvs1)) kvs1 (.v (fD i)) (.v (rwA R i).ans) A7 (.v ((rwA R i).dd.run ws).1) (.v (tW ((rwA R i).dd.run ws).2)) his' hS1 hcap
          simp only [if_true, Bool.false_eq_true, if_false, stepL_x]
          cases q2 : tryL R (srch R n) left ws is kvs1 with
          | mk o2 kvs2 =>
            rw [q2] at lp
            cases o2 with
            | some o2 => simp only [List.set_set] at lp ⊢; exact lp
            | none => simp only [List.set_set] at lp ⊢; exact lp
    · rw [if_neg ht] at hcap ⊢
      rw [decide_eq_false ht] at test
      rw [fits_body (m := m) (t := false) (b := false) (S' := S) (run := run) hiR rfl dn test restc c1 fun z => by cases z]
      have lp := fits_loop hR ih hn hn2 hl hw is S kvs (.v (fD i)) (.v (rwA R i).ans) A7 (.v ((rwA R i).dd.run ws).1) (.v (tW ((rwA R i).dd.run ws).2)) his' hS hcap
      simp only [Bool.false_eq_true, if_false, stepL_x]
      exact lp
theorem fits_ok {m : Int} (hR : ∀ r ∈ R, r.Ok m) : ∀ n, n ≤ 1000 → FitsP R n (ev__law_fits n)
  | 0, _ => fun S h left ws kvs hn => absurd hn (Nat.not_lt_zero _)
  | n + 1, hn2 => by
    intro S h left ws kvs hn hl hw hS hcap
    have ih := fits_ok hR n (by omega)
    have hlt : h < S.length := (List.getElem?_eq_some_iff.mp hS).1
    have c1 : left.length ≤ cap := Nat.le_trans (show left.length ≤ 1001 by omega) (by decide)
    have ce : (endsOf R left).length ≤ cap := by
      unfold endsOf
      rw [List.length_map]
      exact Nat.le_trans (List.length_filter_le _ _) c1
    show runOf 10 (bo__law_fits (ev__law_fits n)) _ S = _
    unfold bo__law_fits
    rw [runOf_ (ss := [.b (R.map Row.d), .v (tN left), .v (tW ws), .v (.ob h)]) (by simp) (by simp)]
    have f1 : fVar 1 [.b (R.map Row.d), .v (tN left), .v (tW ws), .v (.ob h), .no, .no, .no, .no, .no, .no] S = some ((left.map fD, .no, true), S) := fVar_t rfl
    have ec := ends_comp (S := S) (R := R) (ρ := [.b (R.map Row.d), .v (tN left), .v (tW ws), .v (.ob h), .no, .no, .no, .no, .no, .no]) (k := 5) (left := left) rfl (by decide) (by simp) hl
    have s1 : (sAsg 4 (eComp (fVar 1) (tgName 5) [5] (eUn gNotN (eBin gIx (eBin gIx (eVar 0) (eVar 5)) (eLit (.int 3)))) (eBin gIx (eBin gIx (eVar 0) (eVar 5)) (eLit (.int 3))))) [.b (R.map Row.d), .v (tN left), .v (tW ws), .v (.ob h), .no, .no, .no, .no, .no, .no] S = some (.next (envF R left ws h .no .no .no .no .no) S) := by
      simp -implicitDefEqProofs [f1, c1, wipeE, ec]
      rfl
    have env0 : ([.v (tN left)] : Env) = [.v (tN left)] := rfl
    have eq : gEq S (.b ((endsOf R left).map D.int)) (.l []) = some (.v (.bl (decide (endsOf R left = [])))) := by
      rw [gEq_bl (okNs_ints _) (by simp [okNs]), eqDs_nil_r, List.isEmpty_map]
      cases endsOf R left <;> simp
    have t1 : (eBin gEq (eVar 4) (eLst [])) (envF R left ws h .no .no .no .no .no) S = some (.v (.bl (decide (endsOf R left = []))), S) := by
      unfold envF
      simp -implicitDefEqProofs [eq]
    have inn := in_dead (left := left) (ws := ws) hS
    have t2 : (eBin gIn (eTup [eVar 1, eVar 2]) (eVar 3)) (envF R left ws h .no .no .no .no .no) S = some (.v (.bl (dLook kvs (keyN left ws)).isSome), S) := by
      have kt : (eTup [eVar 1, eVar 2]) (envF R left ws h .no .no .no .no .no) S = some (.v (keyN left ws), S) := by unfold envF; simp -implicitDefEqProofs; rfl
      have v3 : eVar 3 (envF R left ws h .no .no .no .no .no) S = some (.v (.ob h), S) := rfl
      rw [eBin_, kt, bnd_s, v3, bnd_s, inn]
      rfl
    have app : ([.b (R.map Row.d), .v (tN left), .v (tW ws), .v (.ob h)] : Env) ++ List.replicate (10 - ([.b (R.map Row.d), .v (tN left), .v (tW ws), .v (.ob h)] : Env).length) Sl.no = [.b (R.map Row.d), .v (tN left), .v (tW ws), .v (.ob h), .no, .no, .no, .no, .no, .no] := rfl
    rw [app, sSeq_, s1, thenS_x, sSeq_, sIf_, t1, bnd_s, Ev.R.bool_bl, iteB_s]
    rw [srch] at hcap ⊢
    by_cases h1 : endsOf R left = []
    · rw [if_pos h1] at hcap ⊢
      rw [decide_eq_true h1, set_same hS]
      simp -implicitDefEqProofs
    · rw [if_neg h1] at hcap ⊢
      rw [decide_eq_false h1, if_neg (by simp), sNil_, thenS_x, sSeq_, sIf_, t2, bnd_s, Ev.R.bool_bl, iteB_s]
      by_cases h2 : (dLook kvs (keyN left ws)).isSome = true
      · rw [if_pos h2] at hcap ⊢
        rw [if_pos h2, set_same hS]
        simp -implicitDefEqProofs
      · rw [if_neg h2] at hcap ⊢
        rw [if_neg h2, sNil_, thenS_x, sSeq_]
        have h3 : dLook kvs (keyN left ws) = none := by simpa using h2
        have add1 : Adds (left.length - 1) kvs (tryL R (srch R n) left ws (nextOf R left) kvs).2 := tryL_adds (fun i hi w k => (srch_adds n _ w k).mono (by have := filter_ne_len hi; omega)) _ _ fun i hi => (List.mem_filter.mp hi).1
        have hpos : 0 < left.length := by
          cases left with
          | nil => exact absurd rfl h1
          | cons a l => simp
        have hep : 0 < (endsOf R left).length := by
          cases q : endsOf R left with
          | nil => exact absurd q h1
          | cons a l => simp
        have nin : ∀ i ∈ nextOf R left, i ∈ left := fun i hi => (List.mem_filter.mp hi).1
        have fr : ∀ body : Sx, (sFor (fSeq (eComp (fVar 1) (tgName 7) [7] (eAnd (eBin gLe (eBin gIx (eBin gIx (eVar 0) (eVar 7)) (eLit (.int 2))) (eBlt gMin [eVar 4])) (eUn gNot (eCall ev__law_is_held [] [eVar 0, eVar 1, eVar 7]))) (eVar 7))) (tgName 5) body) (envF R left ws h .no .no .no .no .no) S = loopF (tgName 5) body .no ((nextOf R left).map fD) (envF R left ws h .no .no .no .no .no) S := by
          intro body
          have fv : fVar 1 (envF R left ws h .no .no .no .no .no) S = some ((left.map fD, .no, true), S) := fVar_t rfl
          have wp : wipeE (envF R left ws h .no .no .no .no .no) [7] = [.b (R.map Row.d), .v (tN left), .v (tW ws), .v (.ob h), .l ((endsOf R left).map D.int), .no, .no, .no, .no, .no] := rfl
          have cd := cand_ok (S := S) (A := .no) (B := .v (tW ws)) (C := .v (.ob h)) (D6 := .no) (D8 := .no) (D9 := .no) hR hl hep
          rw [sFor_, fSeq_, eComp_, fv, bnd_s]
          simp only [List.length_map]
          rw [if_pos c1, wp, cd, bnd_s, bnd_s]
          rfl
        rw [fr]
        cases q : tryL R (srch R n) left ws (nextOf R left) kvs with
        | mk o kvs1 =>
          rw [q] at hcap add1
          have lp := fits_loop hR ih hn (by omega) hl hw (nextOf R left) S kvs .no .no .no .no .no nin hS
          rw [q] at lp
          cases o with
          | some o =>
            have lp := lp hcap
            simp only at lp ⊢
            rw [lp]
            rfl
          | none =>
            simp only at hcap
            rw [List.length_append] at hcap
            have hc1 : kvs1.length < cap := by simp at hcap; omega
            obtain ⟨B5, B6, B7, B8, B9, lp⟩ := lp (Nat.le_of_lt hc1)
            have h4 := look_adds (left := left) (ws := ws) add1 (by omega) h3
            rw [lp, thenS_x, sSeq_]
            have kt2 : (eTup [eVar 1, eVar 2]) (envF R left ws h B5 B6 B7 B8 B9) (S.set h (.dic .N kvs1)) = some (.v (keyN left ws), S.set h (.dic .N kvs1)) := by unfold envF; simp -implicitDefEqProofs; rfl
            have v3 : eVar 3 (envF R left ws h B5 B6 B7 B8 B9) (S.set h (.dic .N kvs1)) = some (.v (.ob h), S.set h (.dic .N kvs1)) := rfl
            have hS1 : (S.set h (.dic .N kvs1))[h]? = some (.dic .N kvs1) := List.getElem?_set_self hlt
            rw [sSet_, eLit_, bnd_s, v3, bnd_s, kt2, bnd_s]
            simp -implicitDefEqProofs [hS1, put_dead hc1 h4]
end
end Ev

set_option Elab.async false
set_option linter.all false
set_option maxRecDepth 100000
set_option maxHeartbeats 4000000
/-! An order that was found explains. -/
namespace Ev
open PySem L2
section
variable {S : Store} {R : List Row}
def Sound (R : List Row) : List Nat → List Int → List Nat → Prop
  | left, _, [] => endsOf R left = []
  | left, ws, i :: o => i ∈ nextOf R left ∧ ((rwA R i).e = none ∨ (rwA R i).ans = ((rwA R i).dd.run ws).1) ∧ Sound R (left.filter fun j => decide (j ≠ i)) ((rwA R i).dd.run ws).2 o
theorem srch_sound : ∀ (n : Nat) (left : List Nat) (ws : List Int) (kvs : Kvs) (o : List Nat), (srch R n left ws kvs).1 = some o → Sound R left ws o
  | 0, _, _, _, _, h => by cases h
  | n + 1, left, ws, kvs, o, h => by
    have tl : ∀ (is : List Nat) (kvs : Kvs) (o : List Nat), (∀ i ∈ is, i ∈ nextOf R left) → (tryL R (srch R n) left ws is kvs).1 = some o → Sound R left ws o := by
      intro is
      induction is with
      | nil => intro kvs o _ h; cases h
      | cons i is ih =>
        intro kvs o hi h
        rw [tryL] at h
        split at h
        · rename_i ht
          split at h
          · rename_i o' kvs' e
            cases h
            exact ⟨hi i (by simp), ht, srch_sound n _ _ kvs o' (by rw [e])⟩
          · exact ih _ _ (fun j hj => hi j (by simp [hj])) h
        · exact ih _ _ (fun j hj => hi j (by simp [hj])) h
    rw [srch] at h
    split at h
    · rename_i h1
      cases h
      exact h1
    · split at h
      · cases h
      · split at h
        · rename_i o' kvs' e
          cases h
          exact tl _ kvs o (fun _ h => h) (by rw [e])
        · cases h
theorem sound_mem : ∀ {o : List Nat} {left : List Nat} {ws : List Int}, Sound R left ws o → (∀ i ∈ o, i ∈ left) ∧ o.Nodup ∧ ∀ i ∈ left, hasE R i = true → i ∈ o
  | [], left, ws, h => by
    refine ⟨by simp, by simp, fun i hi he => ?_⟩
    have h' : endsOf R left = [] := h
    unfold endsOf at h'
    have : i ∈ left.filter (hasE R) := List.mem_filter.mpr ⟨hi, he⟩
    rw [List.map_eq_nil_iff.mp h'] at this
    cases this
  | i :: o, left, ws, h => by
    obtain ⟨h1, h2, h3⟩ := h
    obtain ⟨a, b, c⟩ := sound_mem h3
    have hi : i ∈ left := (List.mem_filter.mp h1).1
    refine ⟨fun j hj => ?_, ?_, fun j hj he => ?_⟩
    · rcases List.mem_cons.mp hj with rfl | hj
      · exact hi
      · exact (List.mem_filter.mp (a j hj)).1
    · rw [List.nodup_cons]
      refine ⟨fun z => ?_, b⟩
      have := (List.mem_filter.mp (a i z)).2
      simp at this
    · by_cases e : j = i
      · rw [e]; simp
      · exact List.mem_cons_of_mem _ (c j (List.mem_filter.mpr ⟨hj, by simp [e]⟩) he)
theorem hasE_iff {i : Nat} : hasE R i = true ↔ (rwA R i).e ≠ none := by
  unfold hasE
  cases (rwA R i).e <;> simp
theorem walk_order {m : Int} (hR : ∀ r ∈ R, r.Ok m) {A1 : Sl} : ∀ (o left : List Nat) (ws : List Int) (last : Int) (A4 A5 : Sl), Sound R left ws o → Ws ws → (∀ i ∈ left, i < R.length) → (∀ j ∈ left, hasE R j = true → last ≤ (rwA R j).endI) →
    ∃ ρ', loopF (tgName 4) bd__law_order_1 .no (o.map fD) [.b (R.map Row.d), A1, .v (tW ws), .v (.int last), A4, A5] S = some (.next ρ' S)
  | [], left, ws, last, A4, A5, _, _, _, _ => ⟨_, rfl⟩
  | i :: o, left, ws, last, A4, A5, h, hw, hl, hlast => by
    obtain ⟨h1, h2, h3⟩ := h
    obtain ⟨hi, hnx⟩ := List.mem_filter.mp h1
    have hiR := hl i hi
    have hr : (rwA R i).Ok m := hR _ (by simp [rwA, hiR])
    have hdd := hr.2.1
    have rk := run_ok hw hdd
    have dn := law_done_ok (S := S) hw.1 hdd
    obtain ⟨ρ', ih⟩ := walk_order hR (A1 := A1) o (left.filter fun j => decide (j ≠ i)) ((rwA R i).dd.run ws).2 (max last (rwA R i).b) (.v (fD i)) (.v ((rwA R i).dd.run ws).1) h3 rk.2 (fun j hj => hl j (List.mem_filter.mp hj).1) (fun j hj he => by
      have hj' := (List.mem_filter.mp hj).1
      have a1 := hlast j hj' he
      have a2 := List.all_eq_true.mp hnx (rwA R j).endI (List.mem_map.mpr ⟨j, List.mem_filter.mpr ⟨hj', he⟩, rfl⟩)
      simp at a2
      omega)
    refine ⟨ρ', ?_⟩
    rw [List.map_cons, loopF_c]
    have body : bd__law_order_1 [.b (R.map Row.d), A1, .v (tW ws), .v (.int last), .v (fD i), A5] S = some (.next [.b (R.map Row.d), A1, .v (tW ((rwA R i).dd.run ws).2), .v (.int (max last (rwA R i).b)), .v (fD i), .v ((rwA R i).dd.run ws).1] S) := by
      unfold bd__law_order_1
      have ix1 : gIx S (.b (R.map Row.d)) (.v (fD i)) = some (.v (rwA R i).d) := ixRow hiR
      cases q : (rwA R i).e with
      | none => simp -implicitDefEqProofs [ix1, row_3, row_2, row_1, Row.end_, q, dn]
      | some p =>
        have h5 := hr.2.2.2.2
        rw [q] at h5
        simp only at h5
        have ea : (rwA R i).ans = p.2 := by unfold Row.ans; rw [q]
        have an : (rwA R i).ans = ((rwA R i).dd.run ws).1 := h2.resolve_left (by rw [q]; simp)
        have lk := alike_ok (S := S) (n := 38) hdd h5.2.2 rk.1
        have le := hlast i hi (hasE_iff.mpr (by rw [q]; simp))
        have ei : (rwA R i).endI = p.1 := by unfold Row.endI; rw [q]
        rw [ei] at le
        have hnl : ¬ p.1 < last := by omega
        rw [ea] at an
        rw [decide_eq_true an] at lk
        simp -implicitDefEqProofs [ix1, row_3, row_2, row_1, row_4, Row.end_, q, dn, hnl, ea, lk]
    simp -implicitDefEqProofs [body, ih]
theorem in_ints {i : Nat} {o : List Nat} : gNotIn S (.v (.int (i : Nat))) (.b (o.map fD)) = some (.v (.bl (!decide (i ∈ o)))) := by
  have ok : okNs 60 (o.map fD) = true := by rw [fD_ints]; exact okNs_ints _
  have an : ((toPDs (o.map fD)).any fun z => PyData.eqv z (toPD (.int (i : Nat)))) = decide (i ∈ o) := by
    induction o with
    | nil => simp [toPDs]
    | cons a o ih =>
      have ok' : okNs 60 (o.map fD) = true := by rw [fD_ints]; exact okNs_ints _
      rw [List.map_cons, toPDs, List.any_cons, ih ok']
      have e : PyData.eqv (toPD (fD a)) (toPD (.int (i : Nat))) = decide (a = i) := by
        show eqD (.int (a : Nat)) (.int (i : Nat)) = _
        rw [eqD_int]
        by_cases h : a = i
        · subst h; simp
        · rw [decide_eq_false h, decide_eq_false (by omega)]
      rw [e]
      by_cases h : a = i
      · subst h; simp
      · have h' : ¬ i = a := fun z => h z.symm
        simp [h, h']
  simp only [gNotIn, inR, Ev.R.dicR, lseq_b, pd_v (S := S) (a := .int (i : Nat)) rfl, ok, if_true, an, Option.map_some]
theorem order_says {m : Int} (hR : ∀ r ∈ R, r.Ok m) (hn : R.length ≤ 12) {o : List Nat} (hl : o.length ≤ 4000) (h : Sound R (List.range R.length) (List.replicate 10 0) o) : ev__law_order [.b (R.map Row.d), .b (o.map fD)] S = some (.v (.bl true), S) := by
  obtain ⟨s1, s2, s3⟩ := sound_mem h
  have hlt : ∀ i ∈ o, i < R.length := fun i hi => List.mem_range.mp (s1 i hi)
  unfold ev__law_order bo__law_order
  rw [runOf_ (ss := [.b (R.map Row.d), .b (o.map fD)]) (by simp) (by simp)]
  have nd : (o.map fun f => ((f : Nat) : Int)).Nodup := by
    rw [List.Nodup, List.pairwise_map]
    exact s2.imp fun h z => h (by omega)
  have ls : (eLenSet (eVar 1)) [.b (R.map Row.d), .b (o.map fD), .no, .no, .no, .no] S = some (.v (.int (o.length : Nat)), S) := by
    unfold eLenSet
    simp -implicitDefEqProofs [Ev.R.nums]
    rw [fD_ints, ints1_map]
    simp [nd, hl]
  have c1 : o.length ≤ cap := Nat.le_trans hl (by decide)
  have c2 : R.length ≤ cap := Nat.le_trans hn (by decide)
  have f1 : fVar 1 [.b (R.map Row.d), .b (o.map fD), .no, .no, .no, .no] S = some ((o.map fD, .no, true), S) := fVar_b rfl
  have k1 := comp_none (S := S) (ρ := [.b (R.map Row.d), .b (o.map fD), .no, .no, .no, .no]) (tg := tgName 4) (ft := eOr (eNotRg (eVar 4) (eBlt gLen [eVar 0])) (eUn gNot (eCall (ev__law_alike 40) [] [eVar 4, eBlt gInt [eVar 4]]))) (fe := eVar 4) fD (xs := o) fun i hi => ⟨_, rfl, by
    have := hlt i hi
    have lt : (i : Int) < (R.length : Nat) := by omega
    simp -implicitDefEqProofs [fD, eNotRg, lt, alike_int (n := 39)]⟩
  have k2 := comp_none (S := S) (ρ := [.b (R.map Row.d), .b (o.map fD), .no, .no, .no, .no]) (tg := tgName 4) (ft := eAnd (eUn gNotN (eBin gIx (eBin gIx (eVar 0) (eVar 4)) (eLit (.int 3)))) (eBin gNotIn (eVar 4) (eVar 1))) (fe := eVar 4) fD (xs := List.range R.length) fun i hi => ⟨_, rfl, by
    have hi2 := List.mem_range.mp hi
    by_cases he : hasE R i = true
    · have io := s3 i hi he
      have en : decide ((rwA R i).end_ = .non) = false := by rw [end_non]; simpa [hasE] using he
      have en' : ¬ (rwA R i).end_ = .non := by simpa using en
      simp -implicitDefEqProofs [fD, ixRow hi2, row_3, en', in_ints, io]
    · have en : decide ((rwA R i).end_ = .non) = true := by rw [end_non]; simpa [hasE] using he
      have en' : (rwA R i).end_ = .non := by simpa using en
      simp -implicitDefEqProofs [fD, ixRow hi2, row_3, en']⟩
  have ne : gNe S (.l []) (.l []) = some (.v (.bl false)) := by rw [gNe_ll (by simp [okNs]) (by simp [okNs])]; simp
  have sn := small_n (n := (R.length : Nat)) (by omega) (by omega)
  obtain ⟨ρ', wk⟩ := walk_order (S := S) (A1 := .b (o.map fD)) hR o (List.range R.length) (List.replicate 10 0) 0 .no .no h ws0 (fun i hi => List.mem_range.mp hi) fun j hj he => by
    have hj2 := List.mem_range.mp hj
    have hr : (rwA R j).Ok m := hR _ (by simp [rwA, hj2])
    obtain ⟨_, _, b0, _, h5⟩ := hr
    unfold Row.endI
    unfold hasE at he
    cases q : (rwA R j).e with
    | none => simp
    | some p =>
      rw [q] at h5
      simp only at h5 ⊢
      omega
  have f2 : fVar 1 [.b (R.map Row.d), .b (o.map fD), .v (tW (List.replicate 10 0)), .v (.int 0), .no, .no] S = some ((o.map fD, .no, true), S) := fVar_b rfl
  have rl : rangeD ((R.length : Nat) : Int) = (List.range R.length).map fD := rangeD_nat
  have app : ([.b (R.map Row.d), .b (o.map fD)] : Env) ++ List.replicate (6 - ([.b (R.map Row.d), .b (o.map fD)] : Env).length) Sl.no = [.b (R.map Row.d), .b (o.map fD), .no, .no, .no, .no] := rfl
  rw [app]
  simp -implicitDefEqProofs [-List.reduceReplicate, isTy, ls, f1, c1, wipeE, k1, ne, sn, rl, c2, k2, zero10, f2, wk]
end
end Ev

set_option Elab.async false
set_option linter.all false
set_option maxRecDepth 100000
set_option maxHeartbeats 4000000
/-! judged, explained. -/
namespace Ev
open PySem L2
section
variable {S : Store} {R : List Row}
/-- what the search says of a history -/
def sr (R : List Row) : Option (List Nat) × Kvs := srch R 40 (List.range R.length) (List.replicate 10 0) []
theorem box_N {ρ : Env} : (eBox (eDNew .N)) ρ S = some (.v (.ob S.length), S ++ [.dic .N []]) := rfl
theorem tup_rg {ρ : Env} {fa : E} {n : Nat} (h : fa ρ S = some (.v (.int (n : Nat)), S)) (hn : n ≤ 1000) : (eTupRg fa) ρ S = some (.v (tN (List.range n)), S) := by
  have sn := small_n (n := (n : Nat)) (by omega) (by omega)
  unfold eTupRg
  rw [h]
  simp -implicitDefEqProofs [sn, rangeD_nat]
  rfl
theorem set_last {o o' : Ob} : (S ++ [o]).set S.length o' = S ++ [o'] := by
  rw [List.set_append_right _ _ (Nat.le_refl _)]
  simp
theorem judged_ok {m : Int} (hm : m < 10000) (h : Hist m R) (hn : R.length ≤ 12) (hc : (sr R).2.length ≤ cap) : ev_judged [.b (R.map Row.d)] S = some (resR (sr R).1, S ++ [.dic .N (sr R).2]) := by
  unfold ev_judged bo_judged
  rw [runOf_ (ss := [.b (R.map Row.d)]) (by simp) (by simp)]
  have nd := need_ok (S := S) hm h hn
  have tr : (eTupRg (eBlt gLen [eVar 0])) [.b (R.map Row.d)] S = some (.v (tN (List.range R.length)), S) := tup_rg (by simp) (by omega)
  have od := order_ok h.1 40 (by decide) (S ++ [.dic .N []]) S.length (List.range R.length) (List.replicate 10 0) [] (by simp; omega) (fun i hi => List.mem_range.mp hi) ws0 (by simp) hc
  rw [set_last] at od
  have app : ([.b (R.map Row.d)] : Env) ++ List.replicate (1 - ([.b (R.map Row.d)] : Env).length) Sl.no = [.b (R.map Row.d)] := rfl
  rw [app]
  have mayR : ∀ o, (resR o).may = true := fun o => by cases o <;> rfl
  simp -implicitDefEqProofs [-List.reduceReplicate, nd, tr, zero10, box_N, od, mayR]
  exact ⟨rfl, rfl⟩
/-- the loop of explained -/
theorem expl_loop {A0 : Sl} {m : Int} : ∀ (rest done_ : List Row) (A2 A3 A4 A5 A6 : Sl), (∀ r ∈ rest, r.Ok m) → done_.length + rest.length ≤ 1000 →
    ∃ B2 B3 B4 B5 B6, loopF (tgTup [2, 3, 4, 5, 6]) bd__law_explained_1 .no (rest.map Row.d) [A0, .l (done_.map Row.d), A2, A3, A4, A5, A6] S = some (.next [A0, .l ((done_ ++ rest).map Row.d), B2, B3, B4, B5, B6] S)
  | [], done_, A2, A3, A4, A5, A6, _, _ => ⟨A2, A3, A4, A5, A6, by simp⟩
  | r :: rest, done_, A2, A3, A4, A5, A6, hR, hl => by
    obtain ⟨B2, B3, B4, B5, B6, ih⟩ := expl_loop (A0 := A0) rest (done_ ++ [r]) (.v (.int (r.u : Nat))) (.v r.dd.d) (.v (.int r.b)) (.v r.end_) (.v r.ans) (fun x hx => hR x (by simp [hx])) (by simp at hl ⊢; omega)
    refine ⟨B2, B3, B4, B5, B6, ?_⟩
    rw [List.map_cons, loopF_c]
    have hc : done_.length < cap := Nat.lt_of_le_of_lt (show done_.length ≤ 1000 by simp at hl; omega) (by decide)
    have body : bd__law_explained_1 [A0, .l (done_.map Row.d), .v (.int (r.u : Nat)), .v r.dd.d, .v (.int r.b), .v r.end_, .v r.ans] S = some (.next [A0, .l ((done_ ++ [r]).map Row.d), .v (.int (r.u : Nat)), .v r.dd.d, .v (.int r.b), .v r.end_, .v r.ans] S) := by
      unfold bd__law_explained_1
      have rd : r.d = .tup [.int (r.u : Nat), r.dd.d, .int r.b, r.end_, r.ans] := rfl
      cases hd : r.dd with
      | look fs => rw [hd] at rd; simp -implicitDefEqProofs [Deed.d, hc, rd]
      | put fs => rw [hd] at rd; simp -implicitDefEqProofs [Deed.d, hc, rd]
      | add f w => rw [hd] at rd; simp -implicitDefEqProofs [Deed.d, hc, rd]
      | move a b m => rw [hd] at rd; simp -implicitDefEqProofs [Deed.d, hc, rd]
    have tg : tgTup [2, 3, 4, 5, 6] r.d [A0, .l (done_.map Row.d), A2, A3, A4, A5, A6] = some [A0, .l (done_.map Row.d), .v (.int (r.u : Nat)), .v r.dd.d, .v (.int r.b), .v r.end_, .v r.ans] := rfl
    rw [tg, Option.bind_some, body, stepL_x, ih, List.append_assoc]
    rfl
theorem explained_ok {m : Int} (h : Hist m R) (hn : R.length ≤ 12) (hc : (sr R).2.length ≤ cap) : ev__law_explained [.b (R.map Row.d)] S = some (.v (.bl (sr R).1.isSome), S ++ [.dic .N (sr R).2]) := by
  unfold ev__law_explained bo__law_explained
  rw [runOf_ (ss := [.b (R.map Row.d)]) (by simp) (by simp)]
  obtain ⟨B2, B3, B4, B5, B6, lp⟩ := expl_loop (S := S) (A0 := .b (R.map Row.d)) R [] .no .no .no .no .no h.1 (by simp; omega)
  have f1 : fVar 0 [.b (R.map Row.d), .l [], .no, .no, .no, .no, .no] S = some ((R.map Row.d, .no, true), S) := fVar_b rfl
  have tr : (eTupRg (eBlt gLen [eVar 1])) [.b (R.map Row.d), .l (R.map Row.d), B2, B3, B4, B5, B6] S = some (.v (tN (List.range R.length)), S) := tup_rg (by simp) (by omega)
  have ft := fits_ok h.1 40 (by decide) (S ++ [.dic .N []]) S.length (List.range R.length) (List.replicate 10 0) [] (by simp; omega) (fun i hi => List.mem_range.mp hi) ws0 (by simp) hc
  rw [set_last] at ft
  have app : ([.b (R.map Row.d)] : Env) ++ List.replicate (7 - ([.b (R.map Row.d)] : Env).length) Sl.no = [.b (R.map Row.d), .no, .no, .no, .no, .no, .no] := rfl
  rw [app]
  rw [List.map_nil, List.nil_append] at lp
  simp -implicitDefEqProofs [-List.reduceReplicate, f1, lp, tr, zero10, box_N, ft]
  exact ⟨rfl, rfl⟩
/-- all moments later -/
def Row.sh (k : Int) (r : Row) : Row := ⟨r.u, r.dd, r.b + k, r.e.map fun p => (p.1 + k, p.2)⟩
theorem sh_last {k : Int} {r : Row} : (r.sh k).last = r.last + k := by
  unfold Row.last Row.sh
  cases r.e <;> rfl
theorem sh_ok {k m : Int} {r : Row} (hk : 0 ≤ k) (h : r.Ok m) : (r.sh k).Ok (m + k) := by
  obtain ⟨h1, h2, h3, h4, h5⟩ := h
  refine ⟨h1, h2, by show 0 ≤ r.b + k; omega, by show r.b + k ≤ m + k; omega, ?_⟩
  unfold Row.sh
  cases q : r.e with
  | none => trivial
  | some p =>
    rw [q] at h5
    simp only at h5
    exact ⟨by show r.b + k < p.1 + k; omega, by show p.1 + k ≤ m + k; omega, h5.2.2⟩
theorem sh_hist {k m : Int} (hk : 0 ≤ k) (h : Hist m R) : Hist (m + k) (R.map (Row.sh k)) := by
  refine ⟨fun r hr => ?_, ?_⟩
  · obtain ⟨r', hr', rfl⟩ := List.mem_map.mp hr
    exact sh_ok hk (h.1 r' hr')
  · rw [List.pairwise_map]
    exact h.2.imp fun {a b} hab hu => by
      have := hab hu
      rw [sh_last]
      show a.last + k < b.b + k
      omega
end
end Ev

set_option Elab.async false
set_option linter.all false
set_option maxRecDepth 100000
set_option maxHeartbeats 4000000
/-! The law. -/
namespace Ev
open PySem L2
section
variable {S : Store} {R : List Row}
/-- the dead dict stays small -/
def Cnt : Prop := ∀ (R : List Row) (m : Int), Hist m R → R.length ≤ 12 → (∀ r ∈ R, r.dd.F3) → (sr R).2.length ≤ cap
theorem dice_loop : ∀ (ns : List Int) (a : Int) (A0 A1 A3 : Sl), 0 ≤ a → ∃ a' B3, loopF (tgName 3) bd__law_dice_1 .no (ns.map D.int) [A0, A1, .v (.int a), A3] S = some (.next [A0, A1, .v (.int a'), B3] S) ∧ 0 ≤ a'
  | [], a, A0, A1, A3, h => ⟨a, A3, rfl, h⟩
  | n :: ns, a, A0, A1, A3, h => by
    obtain ⟨a', B3, ih, h'⟩ := dice_loop ns ((a * 31 + (if n < 0 then -n else n)) % 2147483647) A0 A1 (.v (.int n)) (Int.emod_nonneg _ (by decide))
    refine ⟨a', B3, ?_, h'⟩
    rw [List.map_cons, loopF_c]
    have body : bd__law_dice_1 [A0, A1, .v (.int a), .v (.int n)] S = some (.next [A0, A1, .v (.int ((a * 31 + (if n < 0 then -n else n)) % 2147483647)), .v (.int n)] S) := by
      unfold bd__law_dice_1
      have g1 : gMul S (.v (.int a)) (.v (.int 31)) = some (.v (.int (a * 31))) := gMulI (by simp [small64])
      have g2 : ∀ i : Int, gMod S (.v (.int i)) (.v (.int 2147483647)) = some (.v (.int (i % 2147483647))) := fun i => gModI (by decide)
      simp -implicitDefEqProofs [g1, g2]
    have tg : tgName 3 (.int n) [A0, A1, .v (.int a), A3] = some [A0, A1, .v (.int a), .v (.int n)] := rfl
    rw [tg, Option.bind_some, body, stepL_x, ih]
theorem dice_ok {ns : List Int} (hl : ns.length ≤ 63) : ∃ xs, ev__law_dice [.f (ns.map D.int), .v (.int 0)] S = some (.l xs, S) ∧ Dc xs := by
  obtain ⟨a, B3, lp, ha⟩ := dice_loop (S := S) ns 0 (.f (ns.map D.int)) (.v (.int 0)) .no (by decide)
  refine ⟨.int a :: .int 0 :: (ns.filter fun n => decide (10 ^ 18 ≤ n)).map D.int, ?_, a, 0, _, rfl, ha, by decide, fun x hx => ?_⟩
  · unfold ev__law_dice bo__law_dice
    rw [runOf_ (ss := [.f (ns.map D.int), .v (.int 0)]) (by simp) (by simp)]
    have f1 : fVar 0 [.f (ns.map D.int), .v (.int 0), .v (.int 0), .no] S = some ((ns.map D.int, .no, true), S) := fVar_f rfl
    have f2 : fVar 0 [.f (ns.map D.int), .v (.int 0), .v (.int a), B3] S = some ((ns.map D.int, .no, true), S) := fVar_f rfl
    have cm := comp_pure (S := S) (ρ := [.f (ns.map D.int), .v (.int 0), .v (.int a), .no]) (tg := tgName 3) (ft := eBin gGe (eVar 3) (eBin gPow (eLit (.int 10)) (eLit (.int 18)))) (fe := eVar 3) D.int (fun n => decide (10 ^ 18 ≤ n)) D.int (xs := ns) fun n hn => ⟨_, rfl, by
      have pw : gPow S (.v (.int 10)) (.v (.int 18)) = some (.v (.int (10 ^ 18))) := rfl
      simp -implicitDefEqProofs only [List.set_cons_succ, List.set_cons_zero, eBin_, eVar_, eLit_, List.getElem?_cons_succ, List.getElem?_cons_zero, rdSl_v, Option.map_some, bnd_s, pw, gGeI], fun _ => by simp⟩
    have hc : ns.length ≤ cap := Nat.le_trans hl (by decide)
    have hc2 : 2 + (ns.filter fun n => decide (10 ^ 18 ≤ n)).length ≤ cap := Nat.le_trans (Nat.add_le_add_left (Nat.le_trans (List.length_filter_le _ _) hl) 2) (by decide)
    have cat : gAdd S (.l [.int a, .int 0]) (.l ((ns.filter fun n => decide (10 ^ 18 ≤ n)).map D.int)) = some (.l (.int a :: .int 0 :: (ns.filter fun n => decide (10 ^ 18 ≤ n)).map D.int)) := by
      have c : (Ev.R.l [D.int a, D.int 0]).cat S (.l ((ns.filter fun n => decide (10 ^ 18 ≤ n)).map D.int)) = some (.l (.int a :: .int 0 :: (ns.filter fun n => decide (10 ^ 18 ≤ n)).map D.int)) := by
        unfold R.cat
        simp only [R.tlst, List.length_cons, List.length_nil, List.length_map, Nat.zero_add, if_pos hc2]
        rfl
      exact c
    have wp : wipeE [.f (ns.map D.int), .v (.int 0), .v (.int a), B3] [3] = [.f (ns.map D.int), .v (.int 0), .v (.int a), .no] := rfl
    have s2 : (sFor (fVar 0) (tgName 3) bd__law_dice_1) [.f (ns.map D.int), .v (.int 0), .v (.int 0), .no] S = some (.next [.f (ns.map D.int), .v (.int 0), .v (.int a), B3] S) := by
      rw [sFor_, f1, bnd_s]
      exact lp
    have s3 : (eBin gAdd (eLst [eVar 2, eLit (.int 0)]) (eComp (fVar 0) (tgName 3) [3] (eBin gGe (eVar 3) (eBin gPow (eLit (.int 10)) (eLit (.int 18)))) (eVar 3))) [.f (ns.map D.int), .v (.int 0), .v (.int a), B3] S = some (.l (.int a :: .int 0 :: (ns.filter fun n => decide (10 ^ 18 ≤ n)).map D.int), S) := by
      have e1 : (eLst [eVar 2, eLit (.int 0)]) [.f (ns.map D.int), .v (.int 0), .v (.int a), B3] S = some (.l [.int a, .int 0], S) := by simp -implicitDefEqProofs
      have e2 : (eComp (fVar 0) (tgName 3) [3] (eBin gGe (eVar 3) (eBin gPow (eLit (.int 10)) (eLit (.int 18)))) (eVar 3)) [.f (ns.map D.int), .v (.int 0), .v (.int a), B3] S = some (.l ((ns.filter fun n => decide (10 ^ 18 ≤ n)).map D.int), S) := by
        rw [eComp_, f2, bnd_s, wp]
        simp only [List.length_map]
        rw [if_pos hc, cm, bnd_s]
      rw [eBin_, e1, bnd_s, e2, bnd_s, cat]
      rfl
    have app : ([.f (ns.map D.int), .v (.int 0)] : Env) ++ List.replicate (4 - ([.f (ns.map D.int), .v (.int 0)] : Env).length) Sl.no = [.f (ns.map D.int), .v (.int 0), .no, .no] := rfl
    rw [app]
    have s1 : (sAsg 2 (eVar 1)) [.f (ns.map D.int), .v (.int 0), .no, .no] S = some (.next [.f (ns.map D.int), .v (.int 0), .v (.int 0), .no] S) := rfl
    rw [sSeq_, s1, thenS_x, sSeq_, s2, thenS_x, sRet_, s3, bnd_s]
    rfl
  · have := (List.mem_filter.mp hx).2
    simp at this
    omega
/-! rows are data -/
theorem ans_ok59 {d : Deed} {a : D} {n : Nat} (h : Ans d a) : okN (n + 1) a = true := by
  cases d with
  | look fs => obtain ⟨ns, rfl, _⟩ := h; rw [okN]; exact okNs_ints ns
  | put ps => obtain ⟨ns, rfl, _⟩ := h; rw [okN]; exact okNs_ints ns
  | add f w => obtain ⟨n, rfl, _⟩ := h; rfl
  | move x y m => obtain ⟨b, rfl⟩ := h; rfl
theorem deed_okN {d : Deed} : okN 59 d.d = true := by
  have okp : ∀ ps : List (Nat × Int), okNs 57 (ps.map pD) = true := fun ps => by
    induction ps with
    | nil => simp [okNs]
    | cons p ps ih => rw [List.map_cons, okNs, ih]; simp [pD, okN, okNs]
  cases d with
  | look fs =>
    have : okNs 57 (fs.map fD) = true := by rw [fD_ints]; exact okNs_ints _
    simp [Deed.d, okN, okNs, this]
  | put ps => simp [Deed.d, okN, okNs, okp]
  | add f w => simp [Deed.d, okN, okNs]
  | move a b m => simp [Deed.d, okN, okNs]
theorem row_okN {r : Row} {m : Int} (h : r.Ok m) : okN 60 r.d = true := by
  obtain ⟨_, _, _, _, h5⟩ := h
  have de := deed_okN (d := r.dd)
  unfold Row.d Row.end_ Row.ans
  cases q : r.e with
  | none => simp [okN, okNs, de]
  | some p =>
    rw [q] at h5
    simp only at h5
    have an := ans_ok59 (n := 58) h5.2.2
    simp [okN, okNs, de, an]
theorem rows_okN {m : Int} : ∀ {R : List Row}, (∀ r ∈ R, r.Ok m) → okNs 60 (R.map Row.d) = true
  | [], _ => by simp [okNs]
  | r :: R, h => by
    rw [List.map_cons, okNs, row_okN (h r (by simp)), rows_okN fun x hx => h x (by simp [hx])]
    rfl
theorem eqDs_refl {xs : List D} (h : okNs 60 xs = true) : eqDs xs xs = true := by
  have h1 := (okNs_lay 60 xs h).1
  have h2 : (PyData.tuple (toPDs xs)).canLay0 = true := by simpa [PyData.canLay0] using h1
  have := SeqAt.eqv_refl _ h2
  simpa [eqDs, PyData.eqv] using this
end
end Ev

set_option Elab.async false
set_option linter.all false
set_option maxRecDepth 100000
set_option maxHeartbeats 4000000
/-! The law's turns. -/
namespace Ev
open PySem L2
section
variable {S : Store} {R : List Row}
def envL (A0 A2 A3 : Sl) (rows : List D) (A5 : Sl) (later : Int) (due : Bool) (handed : List D) (A9 A10 A11 : Sl) : Env :=
  [A0, .v (.ob 0), A2, A3, .l rows, A5, .v (.int later), .v (.bl due), .l handed, A9, A10, A11]
/-- judged, asked and asked again -/
theorem ask_ok {m : Int} {A0 A2 A3 A5 A9 A10 A11 : Sl} {later : Int} (hm : m < 10000) (h : Hist m R) (hn : R.length ≤ 12) (hc : (sr R).2.length ≤ cap) :
    ∃ B10 T, bd_law_1 (envL A0 A2 A3 (R.map Row.d) A5 later (sr R).1.isSome (R.map Row.d) A9 A10 A11) S = some (.next (envL A0 A2 A3 (R.map Row.d) A5 later (sr R).1.isSome (R.map Row.d) A9 B10 A11) (S ++ T)) := by
  have jd := judged_ok (S := S) hm h hn hc
  have ok := rows_okN h.1
  have ne : ∀ S' : Store, gNe S' (.b (R.map Row.d)) (.b (R.map Row.d)) = some (.v (.bl false)) := fun S' => by
    rw [gNe_bb ok ok, eqDs_refl ok]
    rfl
  cases q : (sr R).1 with
  | none =>
    rw [q] at jd
    refine ⟨.v .non, [.dic .N (sr R).2], ?_⟩
    unfold bd_law_1 envL
    simp -implicitDefEqProofs [jd, resR, ne]
  | some o =>
    rw [q] at jd
    have sd : Sound R (List.range R.length) (List.replicate 10 0) o := srch_sound 40 _ _ _ o q
    have ol : o.length ≤ 40 := srch_len 40 _ _ _ o q
    have os := order_says (S := S ++ [.dic .N (sr R).2]) h.1 hn (by omega) sd
    have oc : o.length < cap := Nat.lt_of_le_of_lt ol (by decide)
    refine ⟨.l (o.map fD ++ [.int 0]), [.dic .N (sr R).2], ?_⟩
    unfold bd_law_1 envL
    simp -implicitDefEqProofs [jd, resR, ne, os, oc]
theorem shift_comp {ρ : Env} {later m : Int} (h6 : ρ[6]? = some (.v (.int later))) (hl : ρ.length = 12) (hR : ∀ r ∈ R, r.Ok m) :
    compF (tgName 11) eTrue (eBin gAdd (eSlice (eVar 11) none (some (eLit (.int 2)))) (eTup [eBin gAdd (eBin gIx (eVar 11) (eLit (.int 2))) (eVar 6), eIf (eUn gIsN (eBin gIx (eVar 11) (eLit (.int 3)))) (eLit .non) (eBin gAdd (eBin gIx (eVar 11) (eLit (.int 3))) (eVar 6)), eBin gIx (eVar 11) (eLit (.int 4))])) .no ρ (R.map Row.d) S = some ((R.map (Row.sh later)).map Row.d, S) := by
  rw [List.map_map]
  refine comp_map (S := S) Row.d (Row.d ∘ Row.sh later) fun r hr => ⟨_, rfl, ?_⟩
  have a6 : (ρ.set 11 (.v r.d))[6]? = some (.v (.int later)) := by rw [List.getElem?_set_ne (by decide)]; exact h6
  have a11 : (ρ.set 11 (.v r.d))[11]? = some (.v r.d) := by rw [List.getElem?_set_self (by omega)]
  generalize ρ.set 11 (.v r.d) = ρ1 at *
  have v6 : eVar 6 ρ1 S = some (.v (.int later), S) := by rw [eVar_, a6]; rfl
  have v11 : eVar 11 ρ1 S = some (.v (.tup [.int (r.u : Nat), r.dd.d, .int r.b, r.end_, r.ans]), S) := by rw [eVar_, a11]; rfl
  have c5 : ∀ a b : List D, a.length + b.length ≤ 1000 → gAdd S (.v (.tup a)) (.v (.tup b)) = some (.v (.tup (a ++ b))) := fun a b hab => by
    show (if a.length + b.length ≤ cap then _ else _) = _
    rw [if_pos (Nat.le_trans hab (by decide))]
  show _ = some (Ev.R.v (r.sh later).d, S)
  unfold Row.sh Row.d Row.end_ Row.ans
  cases q : r.e with
  | none => simp -implicitDefEqProofs [-eVar_, v6, v11, c5, Row.end_, Row.ans, q]
  | some p => simp -implicitDefEqProofs [-eVar_, v6, v11, c5, Row.end_, Row.ans, q]
theorem turn_ok (cnt : Cnt) {xs : List D} {T : Store} {A0 A2 A3 A4 A5 A6 A7 A8 A9 A10 A11 : Sl} (hd : Dc xs) :
    ∃ B4 B6 B7 B8 B9 B10 xs' T', bd_law_2 [A0, .v (.ob 0), A2, A3, A4, A5, A6, A7, A8, A9, A10, A11] (.lst xs :: T) = some (.next [A0, .v (.ob 0), A2, A3, B4, A5, B6, B7, B8, B9, B10, A11] (.lst xs' :: T')) ∧ Dc xs' := by
  obtain ⟨a, x1, e1, a1, a2, hd1⟩ := off_ok T 3 hd (by decide) (by decide)
  obtain ⟨most, hmost, em⟩ : ∃ most : Nat, most ≤ 12 ∧ atI [Ev.R.v (.int 7), .v (.int 7), .v (.int 12)] a = some (.v (.int (most : Nat))) := by
    have ha : a = 0 ∨ a = 1 ∨ a = 2 := by omega
    rcases ha with rfl | rfl | rfl
    · exact ⟨7, by decide, rfl⟩
    · exact ⟨7, by decide, rfl⟩
    · exact ⟨12, by decide, rfl⟩
  obtain ⟨R0, x2, e2, hh, hn, hf, hd2⟩ := hist_ok T most hmost hd1
  obtain ⟨b, x3, e3, b1, b2, hd3⟩ := off_ok T 4 hd2 (by decide) (by decide)
  obtain ⟨later, l0, l1, el⟩ : ∃ later : Int, 0 ≤ later ∧ later ≤ 9900 ∧ atI [Ev.R.v (.int 0), .v (.int 0), .v (.int 100), .v (.int 9900)] b = some (.v (.int later)) := by
    have hb : b = 0 ∨ b = 1 ∨ b = 2 ∨ b = 3 := by omega
    rcases hb with rfl | rfl | rfl | rfl
    · exact ⟨0, by decide, by decide, rfl⟩
    · exact ⟨0, by decide, by decide, rfl⟩
    · exact ⟨100, by decide, by decide, rfl⟩
    · exact ⟨9900, by decide, by decide, rfl⟩
  have hR := sh_hist l0 hh
  have hn' : (R0.map (Row.sh later)).length ≤ 12 := by rw [List.length_map]; exact hn
  have hc := cnt (R0.map (Row.sh later)) (29 + later) hR hn' fun r hr => by
    obtain ⟨r', hr', rfl⟩ := List.mem_map.mp hr
    exact hf r' hr'
  have sc := shift_comp (S := .lst x3 :: T) (R := R0) (ρ := [A0, .v (.ob 0), A2, A3, .l (R0.map Row.d), A5, .v (.int later), A7, A8, A9, A10, .no]) (later := later) rfl rfl hh.1
  have f4 : fVar 4 [A0, .v (.ob 0), A2, A3, .l (R0.map Row.d), A5, .v (.int later), A7, A8, A9, A10, A11] (.lst x3 :: T) = some ((R0.map Row.d, .no, false), .lst x3 :: T) := fVar_l rfl
  have c0 : R0.length ≤ cap := Nat.le_trans hn (by decide)
  generalize R0.map (Row.sh later) = R at *
  have ex := explained_ok (S := .lst x3 :: T) hR hn' hc
  obtain ⟨B10, T1, k1⟩ := ask_ok (S := .lst x3 :: T ++ [.dic .N (sr R).2]) (A0 := A0) (A2 := A2) (A3 := A3) (A5 := A5) (A9 := .v (.int 0)) (A10 := A10) (A11 := A11) (later := later) (by omega) hR hn' hc
  obtain ⟨C10, T2, k2⟩ := ask_ok (S := .lst x3 :: T ++ [.dic .N (sr R).2] ++ T1) (A0 := A0) (A2 := A2) (A3 := A3) (A5 := A5) (A9 := .v (.int 1)) (A10 := B10) (A11 := A11) (later := later) (by omega) hR hn' hc
  have s1 : (sAsg 4 (eCall ev__law_history [] [eVar 1, ePick [eLit (.int 7), eLit (.int 7), eLit (.int 12)] (eCall ev__law_off [] [eVar 1, eLit (.int 3)])])) [A0, .v (.ob 0), A2, A3, A4, A5, A6, A7, A8, A9, A10, A11] (.lst xs :: T) = some (.next [A0, .v (.ob 0), A2, A3, .l (R0.map Row.d), A5, A6, A7, A8, A9, A10, A11] (.lst x2 :: T)) := by
    simp -implicitDefEqProofs [e1, em, e2]
  have s2 : (sAsg 6 (ePick [eLit (.int 0), eLit (.int 0), eLit (.int 100), eLit (.int 9900)] (eCall ev__law_off [] [eVar 1, eLit (.int 4)]))) [A0, .v (.ob 0), A2, A3, .l (R0.map Row.d), A5, A6, A7, A8, A9, A10, A11] (.lst x2 :: T) = some (.next [A0, .v (.ob 0), A2, A3, .l (R0.map Row.d), A5, .v (.int later), A7, A8, A9, A10, A11] (.lst x3 :: T)) := by
    simp -implicitDefEqProofs [e3, el]
  have s3 : ∀ fe, compF (tgName 11) eTrue fe .no [A0, .v (.ob 0), A2, A3, .l (R0.map Row.d), A5, .v (.int later), A7, A8, A9, A10, .no] (R0.map Row.d) (.lst x3 :: T) = some (R.map Row.d, .lst x3 :: T) → (sAsg 4 (eComp (fVar 4) (tgName 11) [11] eTrue fe)) [A0, .v (.ob 0), A2, A3, .l (R0.map Row.d), A5, .v (.int later), A7, A8, A9, A10, A11] (.lst x3 :: T) = some (.next [A0, .v (.ob 0), A2, A3, .l (R.map Row.d), A5, .v (.int later), A7, A8, A9, A10, A11] (.lst x3 :: T)) := by
    intro fe hfe
    have wp : wipeE [A0, .v (.ob 0), A2, A3, .l (R0.map Row.d), A5, .v (.int later), A7, A8, A9, A10, A11] [11] = [A0, .v (.ob 0), A2, A3, .l (R0.map Row.d), A5, .v (.int later), A7, A8, A9, A10, .no] := rfl
    rw [sAsg_, eComp_, f4, bnd_s, wp]
    simp only [List.length_map]
    rw [if_pos c0, hfe, bnd_s, bnd_s]
    rfl
  have s4 : (sAsg 7 (eCall ev__law_explained [] [eVar 4])) [A0, .v (.ob 0), A2, A3, .l (R.map Row.d), A5, .v (.int later), A7, A8, A9, A10, A11] (.lst x3 :: T) = some (.next [A0, .v (.ob 0), A2, A3, .l (R.map Row.d), A5, .v (.int later), .v (.bl (sr R).1.isSome), A8, A9, A10, A11] (.lst x3 :: T ++ [.dic .N (sr R).2])) := by
    simp -implicitDefEqProofs [ex]
  have s5 : ∀ S' : Store, (sAsg 8 (eBlt gList [eVar 4])) [A0, .v (.ob 0), A2, A3, .l (R.map Row.d), A5, .v (.int later), .v (.bl (sr R).1.isSome), A8, A9, A10, A11] S' = some (.next (envL A0 A2 A3 (R.map Row.d) A5 later (sr R).1.isSome (R.map Row.d) A9 A10 A11) S') := fun S' => by
    unfold envL
    simp -implicitDefEqProofs
  have s6 : (sFor (fRange (eLit (.int 2))) (tgName 9) bd_law_1) (envL A0 A2 A3 (R.map Row.d) A5 later (sr R).1.isSome (R.map Row.d) A9 A10 A11) (.lst x3 :: T ++ [.dic .N (sr R).2]) = some (.next (envL A0 A2 A3 (R.map Row.d) A5 later (sr R).1.isSome (R.map Row.d) (.v (.int 1)) C10 A11) (.lst x3 :: T ++ [.dic .N (sr R).2] ++ T1 ++ T2)) := by
    have rg : rangeD 2 = [.int 0, .int 1] := rfl
    have sn : smallN 2 = true := rfl
    have t0 : tgName 9 (.int 0) (envL A0 A2 A3 (R.map Row.d) A5 later (sr R).1.isSome (R.map Row.d) A9 A10 A11) = some (envL A0 A2 A3 (R.map Row.d) A5 later (sr R).1.isSome (R.map Row.d) (.v (.int 0)) A10 A11) := rfl
    have t1 : tgName 9 (.int 1) (envL A0 A2 A3 (R.map Row.d) A5 later (sr R).1.isSome (R.map Row.d) (.v (.int 0)) B10 A11) = some (envL A0 A2 A3 (R.map Row.d) A5 later (sr R).1.isSome (R.map Row.d) (.v (.int 1)) B10 A11) := rfl
    rw [sFor_, fRange_, eLit_, bnd_s, Ev.R.int_int, Option.bind_some, if_pos sn, bnd_s, rg]
    simp only [if_true]
    rw [loopF_c, t0, Option.bind_some, k1, stepL_x, loopF_c, t1, Option.bind_some, k2, stepL_x, loopF_n]
  refine ⟨.l (R.map Row.d), .v (.int later), .v (.bl (sr R).1.isSome), .l (R.map Row.d), .v (.int 1), C10, x3, T ++ [.dic .N (sr R).2] ++ T1 ++ T2, ?_, hd3⟩
  unfold bd_law_2
  rw [sSeq_, s1, thenS_x, sSeq_, s2, thenS_x, sSeq_, s3 _ sc, thenS_x, sSeq_, s4, thenS_x, sSeq_, s5, thenS_x, s6]
  rfl
end
end Ev

set_option Elab.async false
set_option linter.all false
set_option maxRecDepth 100000
set_option maxHeartbeats 4000000
/-! The law, but for the count. -/
namespace Ev
open PySem L2
section
variable {S : Store} {R : List Row}
theorem turns_ok (cnt : Cnt) {A0 A3 A5 A11 : Sl} : ∀ (its : List D) (xs : List D) (T : Store) (A2 A4 A6 A7 A8 A9 A10 : Sl), Dc xs →
    ∃ B2 B4 B6 B7 B8 B9 B10 xs' T', loopF (tgName 2) bd_law_2 .no its [A0, .v (.ob 0), A2, A3, A4, A5, A6, A7, A8, A9, A10, A11] (.lst xs :: T) = some (.next [A0, .v (.ob 0), B2, A3, B4, A5, B6, B7, B8, B9, B10, A11] (.lst xs' :: T')) ∧ Dc xs'
  | [], xs, T, A2, A4, A6, A7, A8, A9, A10, hd => ⟨A2, A4, A6, A7, A8, A9, A10, xs, T, rfl, hd⟩
  | d :: its, xs, T, A2, A4, A6, A7, A8, A9, A10, hd => by
    obtain ⟨B4, B6, B7, B8, B9, B10, x1, T1, e1, hd1⟩ := turn_ok cnt (T := T) (A0 := A0) (A2 := .v d) (A3 := A3) (A4 := A4) (A5 := A5) (A6 := A6) (A7 := A7) (A8 := A8) (A9 := A9) (A10 := A10) (A11 := A11) hd
    obtain ⟨C2, C4, C6, C7, C8, C9, C10, x2, T2, e2, hd2⟩ := turns_ok cnt (A0 := A0) (A3 := A3) (A5 := A5) (A11 := A11) its x1 T1 (.v d) B4 B6 B7 B8 B9 B10 hd1
    refine ⟨C2, C4, C6, C7, C8, C9, C10, x2, T2, ?_, hd2⟩
    have tg : tgName 2 d [A0, .v (.ob 0), A2, A3, A4, A5, A6, A7, A8, A9, A10, A11] = some [A0, .v (.ob 0), .v d, A3, A4, A5, A6, A7, A8, A9, A10, A11] := rfl
    rw [loopF_c, tg, Option.bind_some, e1, stepL_x, e2]
/-- lists of numbers -/
theorem alike_lst {n : Nat} {ns : List Int} (hl : ns.length ≤ 1000) : ev__law_alike (n + 2) [.l (ns.map D.int), .l (ns.map D.int)] S = some (.v (.bl true), S) := by
  show runOf 3 (bo__law_alike (ev__law_alike (n + 1))) _ S = _
  unfold bo__law_alike
  rw [runOf_ (ss := [.b (ns.map D.int), .b (ns.map D.int)]) (by simp) (by simp)]
  have cm := comp_map (S := S) (ρ := [.b (ns.map D.int), .b (ns.map D.int), .no]) (tg := tgName 2) (fe := eCall (ev__law_alike (n + 1)) [] [eBin gIx (eVar 0) (eVar 2), eBin gIx (eVar 1) (eVar 2)]) fD (fun k => .bl true) (xs := List.range ns.length) fun k hk => ⟨_, rfl, by
    have k2 := List.mem_range.mp hk
    have g1 := gt_at (ws := ns) (f := k) k2
    simp -implicitDefEqProofs [fD, g1, alike_int]⟩
  have e3 : ((List.range ns.length).map fun _ => D.bl true) = ((List.range ns.length).map fun _ => true).map D.bl := by rw [List.map_map]; rfl
  rw [e3] at cm
  have sn := small_n (n := (ns.length : Nat)) (by omega) (by omega)
  have hc : ns.length ≤ cap := Nat.le_trans hl (by decide)
  have ga : gAll S [.l (((List.range ns.length).map fun _ => true).map D.bl)] = some (.v (.bl true)) := by
    simp only [gAll, lseq_l, Option.bind_some, bools_map, Option.map_some]
    congr 3
    rw [List.all_eq_true]
    intro b hb
    obtain ⟨_, _, rfl⟩ := List.mem_map.mp hb
    rfl
  simp -implicitDefEqProofs [-List.map_map, -List.map_const', isTy, sn, hc, rangeD_nat, wipeE, cm, ga]
/-! ### the two written histories -/
def wr0 (w : Int) : Row := ⟨0, .put [(0, w)], 0, some (1, .tup [.int 0])⟩
def wr1 (w : Int) : Row := ⟨1, .move 0 9 w, 2, some (3, .bl true)⟩
theorem wr_hist {w v : Int} (hw : Wo w) (hv : Wo v) : Hist 3 [wr0 w, wr1 v] := by
  refine ⟨fun r hr => ?_, ?_⟩
  · rcases List.mem_cons.mp hr with rfl | hr
    · refine ⟨by simp [wr0], ⟨⟨by simp [wr0], by simp, by simp, by simp⟩, by simpa using hw⟩, by simp [wr0], by simp [wr0], by simp [wr0], by simp, [0], rfl, rfl, by simp [Wo]⟩
    · rw [List.mem_singleton.mp hr]
      exact ⟨by simp [wr1], ⟨by simp, by simp, by simp, hv⟩, by simp [wr1], by simp [wr1], by simp [wr1], by simp, true, rfl⟩
  · simp [wr0, wr1]
theorem wr_f3 {w v : Int} : ∀ r ∈ [wr0 w, wr1 v], r.dd.F3 := fun r hr => by
  rcases List.mem_cons.mp hr with rfl | hr
  · intro p hp
    rw [List.mem_singleton.mp hp]
    exact .inl rfl
  · rw [List.mem_singleton.mp hr]
    exact ⟨.inl rfl, .inr (.inr rfl)⟩
theorem wr_good {w : Int} (hw : 1 ≤ w) (hw2 : w ≤ 998) : (sr [wr0 w, wr1 w]).1 = some [0, 1] := by
  have h1 : ¬ 1000 ≤ w := by omega
  simp [sr, srch, tryL, endsOf, nextOf, hasE, rwA, wr0, wr1, Row.endI, Row.ans, Deed.run, gt, dLook, List.range_succ, h1]
theorem wr_bad {w : Int} (hw : 1 ≤ w) (hw2 : w ≤ 998) : (sr [wr0 w, wr1 (w + 1)]).1 = none := by
  have h2 : w < w + 1 := by omega
  simp [sr, srch, tryL, endsOf, nextOf, hasE, rwA, wr0, wr1, Row.endI, Row.ans, Deed.run, gt, dLook, List.range_succ, h2]
theorem runs_of (cnt : Cnt) : LawRuns := by
  intro ns hl
  obtain ⟨xs, ed, hd⟩ := dice_ok (S := []) hl
  obtain ⟨B2, B4, B6, B7, B8, B9, B10, x1, T1, e1, hd1⟩ := turns_ok cnt (A0 := .f (ns.map D.int)) (A3 := .no) (A5 := .no) (A11 := .no) (rangeD 4) xs [] .no .no .no .no .no .no .no hd
  obtain ⟨v, x2, e2, v1, v2, hd2⟩ := off_ok T1 998 hd1 (by decide) (by decide)
  have w1 : (1 : Int) ≤ 1 + v := by omega
  have w2 : 1 + v ≤ 998 := by omega
  generalize hw : 1 + v = w at *
  have ww : Wo w := ⟨by omega, by omega⟩
  have ww1 : Wo (w + 1) := ⟨by omega, by omega⟩
  have j1 := judged_ok (S := .lst x2 :: T1) (by decide) (wr_hist ww ww) (by simp) (cnt _ 3 (wr_hist ww ww) (by simp) wr_f3)
  have j2 := fun S' : Store => judged_ok (S := S') (by decide) (wr_hist ww ww1) (by simp) (cnt _ 3 (wr_hist ww ww1) (by simp) wr_f3)
  rw [wr_good w1 w2] at j1
  have j2' : ∀ S' : Store, ∃ S2, ev_judged [.b ([wr0 w, wr1 (w + 1)].map Row.d)] S' = some (.v .non, S2) := fun S' => ⟨_, by rw [j2 S', wr_bad w1 w2]; rfl⟩
  obtain ⟨S2, j3⟩ := j2' (.lst x2 :: T1 ++ [.dic .N (sr [wr0 w, wr1 w]).2])
  refine ⟨S2, ?_⟩
  unfold ev_law bo_law
  rw [runOf_ (ss := [.f (ns.map D.int)]) (by simp) (by simp)]
  have app : ([.f (ns.map D.int)] : Env) ++ List.replicate (12 - ([.f (ns.map D.int)] : Env).length) Sl.no = [.f (ns.map D.int), .no, .no, .no, .no, .no, .no, .no, .no, .no, .no, .no] := rfl
  rw [app]
  have s1 : (sAsg 1 (eBox (eCall ev__law_dice [] [eVar 0, eLit (.int 0)]))) [.f (ns.map D.int), .no, .no, .no, .no, .no, .no, .no, .no, .no, .no, .no] [] = some (.next [.f (ns.map D.int), .v (.ob 0), .no, .no, .no, .no, .no, .no, .no, .no, .no, .no] [.lst xs]) := by
    have e0 : (eCall ev__law_dice [] [eVar 0, eLit (.int 0)]) [.f (ns.map D.int), .no, .no, .no, .no, .no, .no, .no, .no, .no, .no, .no] [] = some (.l xs, []) := by
      simp -implicitDefEqProofs [ed]
    rw [sAsg_, eBox, e0]
    rfl
  have s2 : (sFor (fRange (eLit (.int 4))) (tgName 2) bd_law_2) [.f (ns.map D.int), .v (.ob 0), .no, .no, .no, .no, .no, .no, .no, .no, .no, .no] [.lst xs] = some (.next [.f (ns.map D.int), .v (.ob 0), B2, .no, B4, .no, B6, B7, B8, B9, B10, .no] (.lst x1 :: T1)) := by
    have sn : smallN 4 = true := rfl
    rw [sFor_, fRange_, eLit_, bnd_s, R.int_int, Option.bind_some, if_pos sn, bnd_s]
    simp only [if_true]
    exact e1
  have s3 : (sAsg 3 (eBin gAdd (eLit (.int 1)) (eCall ev__law_off [] [eVar 1, eLit (.int 998)]))) [.f (ns.map D.int), .v (.ob 0), B2, .no, B4, .no, B6, B7, B8, B9, B10, .no] (.lst x1 :: T1) = some (.next [.f (ns.map D.int), .v (.ob 0), B2, .v (.int w), B4, .no, B6, B7, B8, B9, B10, .no] (.lst x2 :: T1)) := by
    simp -implicitDefEqProofs [e2, hw]
  rw [sSeq_, s1, thenS_x, sSeq_, s2, thenS_x, sSeq_, s3, thenS_x]
  have al := alike_lst (S := .lst x2 :: T1 ++ [.dic .N (sr [wr0 w, wr1 w]).2]) (n := 38) (ns := [0, 1]) (by simp)
  have cat : ∀ a b : D, gAdd (.lst x2 :: T1) (.l [a]) (.l [b]) = some (.l [a, b]) := fun a b => by
    simp [gAdd, R.cat, R.tlst]
  simp -implicitDefEqProofs [wr0, wr1, Row.d, Row.end_, Row.ans, Deed.d, pD, resR, fD] at j1 j3 al
  simp -implicitDefEqProofs [j1, j3, al, cat]
end
end Ev

set_option Elab.async false
set_option linter.all false
set_option maxRecDepth 100000
set_option maxHeartbeats 4000000
/-! The count: reachable states, their codes. -/
namespace Ev
open PySem L2
section
variable {R : List Row}
inductive Rch (R : List Row) : List Nat → List Int → Prop
  | start : Rch R (List.range R.length) (List.replicate 10 0)
  | step {left : List Nat} {ws : List Int} {i : Nat} : Rch R left ws → i ∈ left → Rch R (left.filter fun j => decide (j ≠ i)) ((rwA R i).dd.run ws).2
/-- all keys are of reachable states, none twice -/
def KOk (R : List Row) (kvs : Kvs) : Prop := (∀ p ∈ kvs, ∃ l w, p = (keyN l w, .bl true) ∧ Rch R l w) ∧ (kvs.map (·.1)).Nodup
theorem look_none {kvs : Kvs} {k : D} (h : dLook kvs k = none) : k ∉ kvs.map (·.1) := by
  intro hm
  obtain ⟨p, hp, rfl⟩ := List.mem_map.mp hm
  unfold dLook at h
  cases q : kvs.find? (fun x => decide (x.1 = p.1)) with
  | none =>
    have := List.find?_eq_none.mp q p hp
    simp at this
  | some x => rw [q] at h; cases h
theorem KOk.add {kvs : Kvs} {left : List Nat} {ws : List Int} (h : KOk R kvs) (hr : Rch R left ws) (hn : dLook kvs (keyN left ws) = none) : KOk R (kvs ++ [(keyN left ws, .bl true)]) := by
  refine ⟨fun p hp => ?_, ?_⟩
  · rcases List.mem_append.mp hp with hp | hp
    · exact h.1 p hp
    · exact ⟨left, ws, List.mem_singleton.mp hp, hr⟩
  · rw [List.map_append, List.nodup_append]
    refine ⟨h.2, by simp, fun a ha b hb => ?_⟩
    have e : b = keyN left ws := by simpa using hb
    subst e
    exact fun z => look_none hn (z ▸ ha)
theorem tryL_ok {rec : List Nat → List Int → Kvs → Option (List Nat) × Kvs} {left : List Nat} {ws : List Int} (hr : Rch R left ws) (hrec : ∀ l w k, Rch R l w → KOk R k → KOk R (rec l w k).2) : ∀ (is : List Nat) (kvs : Kvs), (∀ i ∈ is, i ∈ left) → KOk R kvs → KOk R (tryL R rec left ws is kvs).2
  | [], kvs, _, h => h
  | i :: is, kvs, his, h => by
    rw [tryL]
    have hi := his i (by simp)
    have ht := fun k hk => tryL_ok hr hrec is k (fun j hj => his j (by simp [hj])) hk
    split
    · have q := hrec _ _ kvs (hr.step hi) h
      split
      · rename_i o kvs' e
        rw [e] at q
        exact q
      · rename_i kvs' e
        rw [e] at q
        exact ht kvs' q
    · exact ht kvs h
theorem srch_kok : ∀ (n : Nat) (left : List Nat) (ws : List Int) (kvs : Kvs), Rch R left ws → KOk R kvs → KOk R (srch R n left ws kvs).2
  | 0, _, _, _, _, h => h
  | n + 1, left, ws, kvs, hr, h => by
    rw [srch]
    split
    · exact h
    · rename_i h1
      split
      · exact h
      · rename_i h2
        have h3 : dLook kvs (keyN left ws) = none := by simpa using h2
        have nin : ∀ i ∈ nextOf R left, i ∈ left := fun i hi => (List.mem_filter.mp hi).1
        have ht := tryL_ok hr (fun l w k hl hk => srch_kok n l w k hl hk) (nextOf R left) kvs nin h
        have add1 : Adds (left.length - 1) kvs (tryL R (srch R n) left ws (nextOf R left) kvs).2 := tryL_adds (fun i hi w k => (srch_adds n _ w k).mono (by have := filter_ne_len hi; omega)) _ _ nin
        have hpos : 0 < left.length := by
          cases left with
          | nil => exact absurd rfl h1
          | cons a l => simp
        split
        · rename_i o kvs' e
          rw [e] at ht
          exact ht
        · rename_i kvs' e
          rw [e] at ht add1
          exact ht.add hr (look_adds add1 (by omega) h3)
theorem nodup_sub {α : Type} [DecidableEq α] : ∀ {l L : List α}, l.Nodup → (∀ x ∈ l, x ∈ L) → l.length ≤ L.length
  | [], L, _, _ => by simp
  | a :: l, L, nd, h => by
    rw [List.nodup_cons] at nd
    have ha := h a (by simp)
    have ih := nodup_sub (l := l) (L := L.erase a) nd.2 fun x hx => by
      have hne : x ≠ a := fun z => nd.1 (z ▸ hx)
      exact (List.mem_erase_of_ne hne).mpr (h x (by simp [hx]))
    rw [List.length_erase_of_mem ha] at ih
    have hp : 0 < L.length := List.length_pos_of_mem ha
    simp
    omega
/-- all codes of n numbers below 4 -/
def codes : Nat → List (List Nat)
  | 0 => [[]]
  | n + 1 => (codes n).flatMap fun c => [0 :: c, 1 :: c, 2 :: c, 3 :: c]
theorem codes_len : ∀ n, (codes n).length = 4 ^ n
  | 0 => rfl
  | n + 1 => by
    have : ∀ l : List (List Nat), (l.flatMap fun c => [0 :: c, 1 :: c, 2 :: c, 3 :: c]).length = 4 * l.length := by
      intro l
      induction l with
      | nil => rfl
      | cons a l ih => rw [List.flatMap_cons, List.length_append, ih]; simp; omega
    rw [codes, this, codes_len n, Nat.pow_succ]
    omega
theorem codes_mem : ∀ {c : List Nat}, (∀ x ∈ c, x < 4) → c ∈ codes c.length
  | [], _ => by simp [codes]
  | x :: c, h => by
    have hx := h x (by simp)
    have ih := codes_mem (c := c) fun y hy => h y (by simp [hy])
    rw [List.length_cons, codes, List.mem_flatMap]
    refine ⟨c, ih, ?_⟩
    have : x = 0 ∨ x = 1 ∨ x = 2 ∨ x = 3 := by omega
    rcases this with rfl | rfl | rfl | rfl <;> simp
/-- a count by codes -/
theorem count_by (dec : List Nat → D) (h : ∀ l w, Rch R l w → ∃ c : List Nat, c.length = R.length ∧ (∀ x ∈ c, x < 4) ∧ dec c = keyN l w) (hn : R.length ≤ 12) : (sr R).2.length ≤ cap := by
  have k : KOk R (sr R).2 := srch_kok 40 _ _ _ .start ⟨by simp, by simp⟩
  have sub : ∀ x ∈ (sr R).2.map (·.1), x ∈ (codes R.length).map dec := fun x hx => by
    obtain ⟨p, hp, rfl⟩ := List.mem_map.mp hx
    obtain ⟨l, w, rfl, hr⟩ := k.1 p hp
    obtain ⟨c, h1, h2, h3⟩ := h l w hr
    exact List.mem_map.mpr ⟨c, by rw [← h1]; exact codes_mem h2, h3⟩
  have := nodup_sub k.2 sub
  rw [List.length_map, List.length_map, codes_len] at this
  refine Nat.le_trans this ?_
  have p : 4 ^ R.length ≤ 4 ^ 12 := Nat.pow_le_pow_right (by decide) hn
  exact Nat.le_trans p (by decide)
end
end Ev

set_option Elab.async false
set_option linter.all false
set_option maxRecDepth 100000
set_option maxHeartbeats 4000000
/-! The count: worths by chains and states. -/
namespace Ev
open PySem L2
section
variable {R : List Row}
/-- what a put puts -/
def putL : List (Nat × Int) → Nat → Option Int
  | [], _ => none
  | p :: ps, f => (putL ps f).or (if p.1 = f then some p.2 else none)
def putD : Deed → Nat → Option Int
  | .put ps, f => putL ps f
  | _, _ => none
def cov (R : List Row) (f x : Nat) : Bool := (putD (rwA R x).dd f).isSome
/-- a's last put is newer than b's -/
def nw (R : List Row) : List Nat → Nat → Nat → Bool
  | [], _, _ => false
  | x :: c, a, b => if cov R a x then !cov R b x else if cov R b x then false else nw R c a b
def base (R : List Row) (c : List Nat) (f : Nat) : Int := match c.find? (cov R f) with
  | some x => (putD (rwA R x).dd f).getD 0
  | none => 0
def contr (R : List Row) (c : List Nat) (s : Nat) (f : Nat) : Deed → Int
  | .add g w => if g = f ∧ s = 2 then w else 0
  | .move a b m => (if f = a ∧ (s = 3 ∨ (s = 2 ∧ nw R c b a = true)) then -m else 0) + (if f = b ∧ (s = 3 ∨ (s = 2 ∧ nw R c a b = true)) then m else 0)
  | _ => 0
def tot (R : List Row) (left c : List Nat) (st : Nat → Nat) (f : Nat) : Int := base R c f + ((List.range R.length).map fun j => if j ∈ left then 0 else contr R c (st j) f (rwA R j).dd).sum
structure Sy (R : List Row) (left : List Nat) (ws : List Int) (c : List Nat) (st : Nat → Nat) : Prop where
  w : Ws ws
  v : ∀ f, f < 10 → gt ws f = tot R left c st f % 1000
  own : ∀ x ∈ c, ∃ f, in3 f ∧ c.find? (cov R f) = some x
  nd : c.Nodup
  ex : ∀ x ∈ c, x < R.length ∧ x ∉ left
  s : ∀ j, 1 ≤ st j ∧ st j ≤ 3
theorem sum_same {g g' : Nat → Int} : ∀ {l : List Nat}, (∀ j ∈ l, g' j = g j) → (l.map g').sum = (l.map g).sum
  | [], _ => rfl
  | j :: l, h => by
    rw [List.map_cons, List.map_cons, List.sum_cons, List.sum_cons, h j (by simp), sum_same fun k hk => h k (by simp [hk])]
theorem sum_upd {g g' : Nat → Int} {i : Nat} : ∀ {l : List Nat}, l.Nodup → i ∈ l → (∀ j ∈ l, j ≠ i → g' j = g j) → (l.map g').sum = (l.map g).sum + (g' i - g i)
  | [], _, h, _ => by cases h
  | j :: l, nd, hi, h => by
    rw [List.nodup_cons] at nd
    rw [List.map_cons, List.map_cons, List.sum_cons, List.sum_cons]
    by_cases e : j = i
    · subst e
      rw [sum_same fun k hk => h k (by simp [hk]) fun z => nd.1 (z ▸ hk)]
      omega
    · have hi' : i ∈ l := (List.mem_cons.mp hi).resolve_left fun z => e z.symm
      rw [sum_upd nd.2 hi' fun k hk => h k (by simp [hk]), h j (by simp) e]
      omega
theorem gt_set {ws : List Int} {g f : Nat} {w : Int} (hf : f < ws.length) : gt (ws.set g w) f = if g = f then w else gt ws f := by
  unfold gt
  rw [List.getD_eq_getElem?_getD, List.getD_eq_getElem?_getD]
  by_cases e : g = f
  · subst e
    rw [if_pos rfl, List.getElem?_set_self hf]
    rfl
  · rw [if_neg e, List.getElem?_set_ne e]
theorem putL_gt {f : Nat} : ∀ (ps : List (Nat × Int)) (ws : List Int), f < ws.length → gt (ps.foldl (fun a p => a.set p.1 p.2) ws) f = (putL ps f).getD (gt ws f)
  | [], ws, _ => rfl
  | p :: ps, ws, hf => by
    rw [List.foldl_cons, putL_gt ps _ (by rw [List.length_set]; exact hf), gt_set hf, putL]
    cases putL ps f with
    | some v => rfl
    | none =>
      show (if p.1 = f then p.2 else gt ws f) = (if p.1 = f then some p.2 else none).getD (gt ws f)
      split <;> rfl
theorem putL_in {f : Nat} : ∀ {ps : List (Nat × Int)}, (putL ps f).isSome = true → ∃ p ∈ ps, p.1 = f
  | [], h => by cases h
  | p :: ps, h => by
    rw [putL] at h
    cases q : putL ps f with
    | some v =>
      obtain ⟨x, hx, e⟩ := putL_in (ps := ps) (f := f) (by rw [q]; rfl)
      exact ⟨x, by simp [hx], e⟩
    | none =>
      rw [q] at h
      by_cases e : p.1 = f
      · exact ⟨p, by simp, e⟩
      · simp [e] at h
theorem wo_mod {a b : Int} (h : Wo a) (e : a = b % 1000) : a = b % 1000 := e
/-- a step that is no put -/
theorem Sy.plain {left : List Nat} {ws ws' : List Int} {c : List Nat} {st : Nat → Nat} {i k : Nat} (h : Sy R left ws c st) (hi : i ∈ left) (hiR : i < R.length) (hk : 1 ≤ k ∧ k ≤ 3) (hw : Ws ws')
    (hv : ∀ f, f < 10 → gt ws' f = (gt ws f + contr R c k f (rwA R i).dd) % 1000) : Sy R (left.filter fun j => decide (j ≠ i)) ws' c (fun j => if j = i then k else st j) := by
  refine ⟨hw, fun f hf => ?_, h.own, h.nd, fun x hx => ⟨(h.ex x hx).1, fun z => (h.ex x hx).2 (List.mem_filter.mp z).1⟩, fun j => ?_⟩
  · rw [hv f hf, h.v f hf]
    have su := sum_upd (g := fun j => if j ∈ left then 0 else contr R c (st j) f (rwA R j).dd) (g' := fun j => if j ∈ left.filter (fun j => decide (j ≠ i)) then 0 else contr R c (if j = i then k else st j) f (rwA R j).dd) (i := i) (l := List.range R.length) List.nodup_range (List.mem_range.mpr hiR) fun j hj hne => by
      by_cases hl : j ∈ left
      · have hm : j ∈ left.filter (fun j => decide (j ≠ i)) := List.mem_filter.mpr ⟨hl, by simp [hne]⟩
        simp only [hl, hm, if_true]
      · have hm : j ∉ left.filter (fun j => decide (j ≠ i)) := fun z => hl (List.mem_filter.mp z).1
        simp only [hl, hm, hne, if_false]
    have hm : i ∉ left.filter (fun j => decide (j ≠ i)) := fun z => by
      have := (List.mem_filter.mp z).2
      simp at this
    simp only [hi, hm, if_true, if_false] at su
    show _ = (base R c f + ((List.range R.length).map fun j => if j ∈ left.filter (fun j => decide (j ≠ i)) then 0 else contr R c (if j = i then k else st j) f (rwA R j).dd).sum) % 1000
    rw [su]
    unfold tot
    omega
  · by_cases e : j = i
    · simp only [e, if_true]; exact hk
    · simp only [e, if_false]; exact h.s j
end
end Ev

set_option Elab.async false
set_option linter.all false
set_option maxRecDepth 100000
set_option maxHeartbeats 4000000
/-! The count: a put. -/
namespace Ev
open PySem L2
section
variable {R : List Row}
theorem find_keep {p keep : Nat → Bool} : ∀ {c : List Nat}, (∀ x, c.find? p = some x → keep x = true) → (c.filter keep).find? p = c.find? p
  | [], _ => rfl
  | x :: c, h => by
    cases hp : p x with
    | true =>
      have hk := h x (by rw [List.find?_cons, hp])
      rw [List.filter_cons, if_pos hk, List.find?_cons, List.find?_cons, hp]
    | false =>
      have ih := find_keep (p := p) (keep := keep) (c := c) fun y hy => h y (by rw [List.find?_cons, hp]; exact hy)
      rw [List.filter_cons]
      cases hk : keep x with
      | true => simp only [if_true, List.find?_cons, hp, ih]
      | false => simp only [Bool.false_eq_true, if_false, List.find?_cons, hp, ih]
theorem nw_keep {a b : Nat} {keep : Nat → Bool} : ∀ {c : List Nat}, (∀ x, c.find? (cov R a) = some x → keep x = true) → (∀ x, c.find? (cov R b) = some x → keep x = true) → nw R (c.filter keep) a b = nw R c a b
  | [], _, _ => rfl
  | x :: c, ha, hb => by
    cases pa : cov R a x with
    | true =>
      have hk := ha x (by rw [List.find?_cons, pa])
      rw [List.filter_cons, if_pos hk, nw, nw, if_pos pa, if_pos pa]
    | false =>
      cases pb : cov R b x with
      | true =>
        have hk := hb x (by rw [List.find?_cons, pb])
        rw [List.filter_cons, if_pos hk, nw, nw]
        simp [pa, pb]
      | false =>
        have ih := nw_keep (a := a) (b := b) (keep := keep) (c := c) (fun y hy => ha y (by rw [List.find?_cons, pa]; exact hy)) fun y hy => hb y (by rw [List.find?_cons, pb]; exact hy)
        rw [List.filter_cons, nw]
        cases hk : keep x with
        | true => simp [nw, pa, pb, ih]
        | false => simp [pa, pb, ih]
theorem nw_asym {a b : Nat} : ∀ {c : List Nat}, nw R c a b = true → nw R c b a = false
  | [], h => by cases h
  | x :: c, h => by
    rw [nw] at h ⊢
    cases pa : cov R a x <;> cases pb : cov R b x <;> simp [pa, pb] at h ⊢
    exact nw_asym h
/-- who stays in the chain behind a put -/
def keepB (R : List Row) (c : List Nat) (i x : Nat) : Bool := [0, 4, 9].any fun f => !cov R f i && (c.find? (cov R f) == some x)
def stP (R : List Row) (c : List Nat) (i : Nat) (s : Nat) : Deed → Nat
  | .add g _ => if cov R g i then 1 else s
  | .move a b _ => if s = 3 then (if cov R a i && cov R b i then 1 else if cov R a i || cov R b i then 2 else 3)
    else if s = 2 then (if nw R c b a then (if cov R a i then 1 else 2) else if nw R c a b then (if cov R b i then 1 else 2) else 1) else 1
  | _ => s
theorem stP_ok {c : List Nat} {i s : Nat} {d : Deed} (h : 1 ≤ s ∧ s ≤ 3) : 1 ≤ stP R c i s d ∧ stP R c i s d ≤ 3 := by
  cases d with
  | add g w => simp only [stP]; split <;> omega
  | move a b m => simp only [stP]; repeat' split
                  all_goals omega
  | look fs => exact h
  | put ps => exact h
theorem in3_mem {f : Nat} (h : in3 f) : f ∈ [0, 4, 9] := by
  rcases h with rfl | rfl | rfl <;> simp
theorem keep_of {c : List Nat} {i f x : Nat} (hf : in3 f) (hc : cov R f i = false) (h : c.find? (cov R f) = some x) : keepB R c i x = true := by
  unfold keepB
  rw [List.any_eq_true]
  exact ⟨f, in3_mem hf, by simp [hc, h]⟩
theorem cov_in3 {f x : Nat} (hF : (rwA R x).dd.F3) (h : cov R f x = true) : in3 f := by
  unfold cov putD at h
  cases q : (rwA R x).dd with
  | put ps =>
    rw [q] at h hF
    obtain ⟨p, hp, e⟩ := putL_in h
    exact e ▸ hF p hp
  | look fs => rw [q] at h; cases h
  | add g w => rw [q] at h; cases h
  | move a b m => rw [q] at h; cases h
theorem contr_put {c : List Nat} {i s f : Nat} {d : Deed} (hd : d.F3) (hs : 1 ≤ s ∧ s ≤ 3) :
    contr R (i :: c.filter (keepB R c i)) (stP R c i s d) f d = if cov R f i then 0 else contr R c s f d := by
  cases d with
  | look fs => simp [contr]
  | put ps => simp [contr]
  | add g w =>
    simp only [contr, stP]
    by_cases e : g = f
    · subst e
      by_cases hc : cov R g i = true
      · simp [hc]
      · simp [hc]
    · simp [e]
  | move a b m =>
    obtain ⟨ha, hb⟩ := hd
    have kab : cov R a i = false → cov R b i = false → nw R (i :: c.filter (keepB R c i)) a b = nw R c a b := fun h1 h2 => by
      rw [nw]
      simp only [h1, h2, Bool.false_eq_true, if_false]
      exact nw_keep (fun x hx => keep_of ha h1 hx) fun x hx => keep_of hb h2 hx
    have kba : cov R a i = false → cov R b i = false → nw R (i :: c.filter (keepB R c i)) b a = nw R c b a := fun h1 h2 => by
      rw [nw]
      simp only [h1, h2, Bool.false_eq_true, if_false]
      exact nw_keep (fun x hx => keep_of hb h2 hx) fun x hx => keep_of ha h1 hx
    have hs' : s = 1 ∨ s = 2 ∨ s = 3 := by omega
    cases h1 : cov R a i <;> cases h2 : cov R b i
    · have e1 := kab h1 h2
      have e2 := kba h1 h2
      simp only [contr, stP, h1, h2, e1, e2]
      rcases hs' with rfl | rfl | rfl
      · by_cases fa : f = a <;> by_cases fb : f = b <;> simp [fa, fb, h1, h2]
      · cases n1 : nw R c b a
        · cases n2 : nw R c a b <;> (by_cases fa : f = a <;> by_cases fb : f = b <;> simp [fa, fb, h1, h2, n1, n2])
        · have n2 := nw_asym n1
          by_cases fa : f = a <;> by_cases fb : f = b <;> simp [fa, fb, h1, h2, n1, n2]
      · by_cases fa : f = a <;> by_cases fb : f = b <;> simp [fa, fb, h1, h2]
    · have e1 : nw R (i :: c.filter (keepB R c i)) a b = false := by rw [nw]; simp [h1, h2]
      have e2 : nw R (i :: c.filter (keepB R c i)) b a = true := by rw [nw]; simp [h1, h2]
      simp only [contr, stP, h1, h2, e1, e2]
      rcases hs' with rfl | rfl | rfl
      · by_cases fa : f = a <;> by_cases fb : f = b <;> simp [fa, fb, h1, h2]
      · cases n1 : nw R c b a
        · cases n2 : nw R c a b <;> (by_cases fa : f = a <;> by_cases fb : f = b <;> simp_all)
        · have n2 := nw_asym n1
          by_cases fa : f = a <;> by_cases fb : f = b <;> simp_all
      · by_cases fa : f = a <;> by_cases fb : f = b <;> simp_all
    · have e1 : nw R (i :: c.filter (keepB R c i)) a b = true := by rw [nw]; simp [h1, h2]
      have e2 : nw R (i :: c.filter (keepB R c i)) b a = false := by rw [nw]; simp [h1, h2]
      simp only [contr, stP, h1, h2, e1, e2]
      rcases hs' with rfl | rfl | rfl
      · by_cases fa : f = a <;> by_cases fb : f = b <;> simp [fa, fb, h1, h2]
      · cases n1 : nw R c b a
        · cases n2 : nw R c a b <;> (by_cases fa : f = a <;> by_cases fb : f = b <;> simp_all)
        · have n2 := nw_asym n1
          by_cases fa : f = a <;> by_cases fb : f = b <;> simp_all
      · by_cases fa : f = a <;> by_cases fb : f = b <;> simp_all
    · have e1 : nw R (i :: c.filter (keepB R c i)) a b = false := by rw [nw]; simp [h1, h2]
      have e2 : nw R (i :: c.filter (keepB R c i)) b a = false := by rw [nw]; simp [h1, h2]
      simp only [contr, stP, h1, h2, e1, e2]
      rcases hs' with rfl | rfl | rfl
      · by_cases fa : f = a <;> by_cases fb : f = b <;> simp_all
      · cases n1 : nw R c b a
        · cases n2 : nw R c a b <;> (by_cases fa : f = a <;> by_cases fb : f = b <;> simp_all)
        · have n2 := nw_asym n1
          by_cases fa : f = a <;> by_cases fb : f = b <;> simp_all
      · by_cases fa : f = a <;> by_cases fb : f = b <;> simp_all
end
end Ev

set_option Elab.async false
set_option linter.all false
set_option maxRecDepth 100000
set_option maxHeartbeats 4000000
/-! The count: every reachable state has its chain and states. -/
namespace Ev
open PySem L2
section
variable {R : List Row}
theorem base_put {c : List Nat} {i f : Nat} (hF : ∀ x ∈ c, (rwA R x).dd.F3) : base R (i :: c.filter (keepB R c i)) f = if cov R f i then (putD (rwA R i).dd f).getD 0 else base R c f := by
  unfold base
  rw [List.find?_cons]
  cases hc : cov R f i with
  | true => simp
  | false =>
    simp only [Bool.false_eq_true, if_false]
    rw [find_keep fun x hx => keep_of (cov_in3 (hF x (List.mem_of_find?_eq_some hx)) (List.find?_some hx)) hc hx]
theorem Sy.put {left : List Nat} {ws : List Int} {c : List Nat} {st : Nat → Nat} {i : Nat} {ps : List (Nat × Int)} (h : Sy R left ws c st) (hi : i ∈ left) (hiR : i < R.length) (hF : ∀ j, j < R.length → (rwA R j).dd.F3) (hd : (rwA R i).dd = .put ps) (hok : (Deed.put ps).Ok) :
    Sy R (left.filter fun j => decide (j ≠ i)) (ps.foldl (fun a p => a.set p.1 p.2) ws) (i :: c.filter (keepB R c i)) (fun j => stP R c i (st j) (rwA R j).dd) := by
  have hic : i ∉ c := fun z => (h.ex i z).2 hi
  refine ⟨fold_ws h.w hok.2, fun f hf => ?_, fun x hx => ?_, ?_, fun x hx => ?_, fun j => stP_ok (h.s j)⟩
  · rw [putL_gt ps ws (by rw [h.w.1]; exact hf)]
    have ec : cov R f i = (putL ps f).isSome := by unfold cov; rw [hd]; rfl
    have ep : putD (rwA R i).dd f = putL ps f := by rw [hd]; rfl
    have hm : i ∉ left.filter (fun j => decide (j ≠ i)) := fun z => by
      have := (List.mem_filter.mp z).2
      simp at this
    unfold tot
    rw [base_put (fun x hx => hF x (h.ex x hx).1), ep]
    cases q : putL ps f with
    | some v =>
      have cv : cov R f i = true := by rw [ec, q]; rfl
      rw [sum_same (g := fun _ => 0) fun j hj => by
        by_cases hl : j ∈ left.filter (fun j => decide (j ≠ i))
        · rw [if_pos hl]
        · rw [if_neg hl, contr_put (hF j (List.mem_range.mp hj)) (h.s j), cv]
          rfl]
      have z : ∀ l : List Nat, (l.map fun _ => (0 : Int)).sum = 0 := fun l => by induction l with
        | nil => rfl
        | cons a l ih => rw [List.map_cons, List.sum_cons, ih]; rfl
      rw [z, cv]
      simp only [if_true, Option.getD_some]
      obtain ⟨p, hp, e⟩ : ∃ p ∈ ps, p.2 = v := by
        have : ∀ ps : List (Nat × Int), putL ps f = some v → ∃ p ∈ ps, p.2 = v := by
          intro ps
          induction ps with
          | nil => intro h; cases h
          | cons p ps ih =>
            intro h
            rw [putL] at h
            cases q : putL ps f with
            | some u =>
              rw [q] at h
              have hh : u = v := by simpa using h
              obtain ⟨x, hx, e⟩ := ih (by rw [q, hh])
              exact ⟨x, by simp [hx], e⟩
            | none =>
              rw [q] at h
              by_cases e : p.1 = f
              · exact ⟨p, by simp, by simpa [e] using h⟩
              · simp [e] at h
        exact this ps q
      have := hok.2 p hp
      rw [e] at this
      obtain ⟨t1, t2⟩ := this
      rw [Int.add_zero, Int.emod_eq_of_lt t1 t2]
    | none =>
      have cv : cov R f i = false := by rw [ec, q]; rfl
      rw [cv]
      simp only [Bool.false_eq_true, if_false, Option.getD_none]
      rw [h.v f hf]
      unfold tot
      congr 2
      refine (sum_same fun j hj => ?_).symm
      by_cases e : j = i
      · subst e
        rw [if_neg hm, if_pos hi, hd]
        rfl
      · by_cases hl : j ∈ left
        · rw [if_pos (List.mem_filter.mpr ⟨hl, by simp [e]⟩), if_pos hl]
        · rw [if_neg (fun z => hl (List.mem_filter.mp z).1), if_neg hl, contr_put (hF j (List.mem_range.mp hj)) (h.s j), cv]
          rfl
  · rcases List.mem_cons.mp hx with rfl | hx
    · -- the put itself has a file
      have hpos : 0 < (ps.map (·.1)).length := hok.1.2.1
      cases ps with
      | nil => simp at hpos
      | cons p ps =>
        have cv : cov R p.1 x = true := by
          unfold cov
          rw [hd]
          show (putL (p :: ps) p.1).isSome = true
          rw [putL]
          cases putL ps p.1 <;> simp
        exact ⟨p.1, cov_in3 (hF x hiR) cv, by rw [List.find?_cons, cv]⟩
    · obtain ⟨hx1, hx2⟩ := List.mem_filter.mp hx
      unfold keepB at hx2
      obtain ⟨f, hf, he⟩ := List.any_eq_true.mp hx2
      simp at he
      have f3 : in3 f := by simpa [in3] using hf
      refine ⟨f, f3, ?_⟩
      rw [List.find?_cons, he.1]
      simp only
      rw [find_keep fun y hy => keep_of f3 he.1 hy]
      exact he.2
  · rw [List.nodup_cons]
    exact ⟨fun z => hic (List.mem_filter.mp z).1, h.nd.filter _⟩
  · rcases List.mem_cons.mp hx with rfl | hx
    · exact ⟨hiR, fun z => by
        have := (List.mem_filter.mp z).2
        simp at this⟩
    · have := h.ex x (List.mem_filter.mp hx).1
      exact ⟨this.1, fun z => this.2 (List.mem_filter.mp z).1⟩
end
end Ev

set_option Elab.async false
set_option linter.all false
set_option maxRecDepth 100000
set_option maxHeartbeats 4000000
/-! The count: done. -/
namespace Ev
open PySem L2
section
variable {R : List Row}
theorem wo_self {a : Int} (h : Wo a) : a % 1000 = a := Int.emod_eq_of_lt h.1 h.2
theorem rch_left {left : List Nat} {ws : List Int} (h : Rch R left ws) : ∃ p : Nat → Bool, left = (List.range R.length).filter p := by
  induction h with
  | start => exact ⟨fun _ => true, (List.filter_eq_self.mpr fun _ _ => rfl).symm⟩
  | step h hi ih =>
    obtain ⟨p, e⟩ := ih
    exact ⟨fun j => _, by rw [e, List.filter_filter]⟩
theorem rch_sy (hF : ∀ j, j < R.length → (rwA R j).dd.F3) (hO : ∀ j, j < R.length → (rwA R j).dd.Ok) {left : List Nat} {ws : List Int} (h : Rch R left ws) : (∀ i ∈ left, i < R.length) ∧ ∃ c st, Sy R left ws c st := by
  induction h with
  | start =>
    refine ⟨fun i hi => List.mem_range.mp hi, [], fun _ => 1, ws0, fun f hf => ?_, by simp, by simp, by simp, fun _ => by omega⟩
    unfold tot
    rw [sum_same (g := fun _ => 0) fun j hj => by rw [if_pos hj]]
    have z : ∀ l : List Nat, (l.map fun _ => (0 : Int)).sum = 0 := fun l => by induction l with
      | nil => rfl
      | cons a l ih => rw [List.map_cons, List.sum_cons, ih]; rfl
    rw [z]
    have : f = 0 ∨ f = 1 ∨ f = 2 ∨ f = 3 ∨ f = 4 ∨ f = 5 ∨ f = 6 ∨ f = 7 ∨ f = 8 ∨ f = 9 := by omega
    rcases this with rfl | rfl | rfl | rfl | rfl | rfl | rfl | rfl | rfl | rfl <;> rfl
  | @step left ws i h hi ih =>
    obtain ⟨hl, c, st, sy⟩ := ih
    have hiR := hl i hi
    refine ⟨fun j hj => hl j (List.mem_filter.mp hj).1, ?_⟩
    have ok := hO i hiR
    have rk := run_ok sy.w ok
    cases hd : (rwA R i).dd with
    | look fs =>
      refine ⟨c, _, sy.plain hi hiR (k := 1) (by omega) sy.w fun f hf => ?_⟩
      rw [hd]
      simp only [contr, Int.add_zero]
      exact (wo_self (gt_wo sy.w f)).symm
    | put ps =>
      rw [hd] at ok
      exact ⟨_, _, sy.put hi hiR hF hd ok⟩
    | add g w =>
      rw [hd] at rk
      refine ⟨c, _, sy.plain hi hiR (k := 2) (by omega) rk.2 fun f hf => ?_⟩
      rw [hd]
      simp only [Deed.run, contr]
      rw [gt_set (by rw [sy.w.1]; exact hf)]
      by_cases e : g = f
      · subst e; simp
      · simp [e, wo_self (gt_wo sy.w f)]
    | move a b m =>
      rw [hd] at rk ok
      obtain ⟨ha, hb, hab, hm⟩ := ok
      by_cases q : gt ws a < m ∨ 1000 ≤ gt ws b + m
      · have e : (Deed.run ws (.move a b m)).2 = ws := by simp [Deed.run, q]
        rw [e]
        refine ⟨c, _, sy.plain hi hiR (k := 1) (by omega) sy.w fun f hf => ?_⟩
        rw [hd]
        simp [contr, wo_self (gt_wo sy.w f)]
      · have e : (Deed.run ws (.move a b m)).2 = (ws.set a (gt ws a - m)).set b (gt ws b + m) := by simp [Deed.run, q]
        rw [e] at rk ⊢
        refine ⟨c, _, sy.plain hi hiR (k := 3) (by omega) rk.2 fun f hf => ?_⟩
        rw [hd, gt_set (by rw [List.length_set, sy.w.1]; exact hf), gt_set (by rw [sy.w.1]; exact hf)]
        have wa := gt_wo sy.w a
        have wb := gt_wo sy.w b
        have wf := gt_wo sy.w f
        unfold Wo at wa wb wf hm
        simp only [contr]
        by_cases fb : b = f
        · subst fb
          have : ¬ b = a := fun z => hab z.symm
          simp [this]
          omega
        · by_cases fa : a = f
          · subst fa
            simp [fb]
            have : ¬ a = b := hab
            simp [this]
            omega
          · have f1 : ¬ f = a := fun z => fa z.symm
            have f2 : ¬ f = b := fun z => fb z.symm
            simp [fa, fb, f1, f2]
            omega
/-- an order by bits -/
def ordr (b : Nat → Nat) : List Nat → List Nat
  | [x, y] => if b x = 0 then [x, y] else [y, x]
  | [x, y, z] => if b x = 0 then (if b y = 0 then (if b z = 0 then [x, y, z] else [x, z, y]) else (if b z = 0 then [y, x, z] else [y, z, x])) else (if b z = 0 then [z, x, y] else [z, y, x])
  | l => l
theorem ordr_all {M c : List Nat} (hM : M.Nodup) (hc : c.Nodup) (h : ∀ x, x ∈ c ↔ x ∈ M) (hl : M.length ≤ 3) : ∃ b : Nat → Nat, (∀ i, b i ≤ 1) ∧ ordr b M = c := by
  have l1 := nodup_sub hM fun x hx => (h x).mpr hx
  have l2 := nodup_sub hc fun x hx => (h x).mp hx
  have le : c.length = M.length := by omega
  match M, c, le, hl with
  | [], [], _, _ => exact ⟨fun _ => 0, fun _ => Nat.zero_le _, rfl⟩
  | [x], [a], _, _ =>
    have : a = x := by simpa using (h a).mp (by simp)
    exact ⟨fun _ => 0, fun _ => Nat.zero_le _, by rw [this]; rfl⟩
  | [x, y], [a, b], _, _ =>
    simp at hM hc
    have ha : a = x ∨ a = y := by simpa using (h a).mp (by simp)
    have hb : b = x ∨ b = y := by simpa using (h b).mp (by simp)
    rcases ha with rfl | rfl
    · refine ⟨fun _ => 0, fun _ => Nat.zero_le _, ?_⟩
      have : b = y := hb.resolve_left fun z => hc z.symm
      rw [this]; rfl
    · refine ⟨fun _ => 1, fun _ => Nat.le_refl _, ?_⟩
      have : b = x := hb.resolve_right fun z => hc z.symm
      rw [this]; rfl
  | [x, y, z], [a, b, d], _, _ =>
    simp at hM hc
    have ha : a = x ∨ a = y ∨ a = z := by simpa using (h a).mp (by simp)
    have hb : b = x ∨ b = y ∨ b = z := by simpa using (h b).mp (by simp)
    have hd : d = x ∨ d = y ∨ d = z := by simpa using (h d).mp (by simp)
    obtain ⟨⟨n1, n2⟩, n3⟩ := hM
    obtain ⟨⟨m1, m2⟩, m3⟩ := hc
    have nb : ∀ p q r : Nat, p ≤ 1 → q ≤ 1 → r ≤ 1 → ∃ b : Nat → Nat, (∀ i, b i ≤ 1) ∧ b x = p ∧ b y = q ∧ b z = r := fun p q r hp hq hr =>
      ⟨fun i => if i = x then p else if i = y then q else r, fun i => by
        show (if i = x then p else if i = y then q else r) ≤ 1
        split
        · exact hp
        · split
          · exact hq
          · exact hr, by simp, by simp [Ne.symm n1], by simp [Ne.symm n2, Ne.symm n3]⟩
    have fin : ∀ p q r : Nat, p ≤ 1 → q ≤ 1 → r ≤ 1 → (if p = 0 then (if q = 0 then (if r = 0 then [x, y, z] else [x, z, y]) else (if r = 0 then [y, x, z] else [y, z, x])) else (if r = 0 then [z, x, y] else [z, y, x])) = [a, b, d] → ∃ b' : Nat → Nat, (∀ i, b' i ≤ 1) ∧ ordr b' [x, y, z] = [a, b, d] := fun p q r hp hq hr e => by
      obtain ⟨b', h1, h2, h3, h4⟩ := nb p q r hp hq hr
      exact ⟨b', h1, by simp only [ordr, h2, h3, h4]; exact e⟩
    rcases ha with rfl | rfl | rfl <;> rcases hb with rfl | rfl | rfl <;> rcases hd with rfl | rfl | rfl
    all_goals first
      | exact absurd rfl m1
      | exact absurd rfl m2
      | exact absurd rfl m3
      | exact fin 0 0 0 (by omega) (by omega) (by omega) rfl
      | exact fin 0 0 1 (by omega) (by omega) (by omega) rfl
      | exact fin 0 1 0 (by omega) (by omega) (by omega) rfl
      | exact fin 0 1 1 (by omega) (by omega) (by omega) rfl
      | exact fin 1 0 0 (by omega) (by omega) (by omega) rfl
      | exact fin 1 0 1 (by omega) (by omega) (by omega) rfl
end
end Ev

set_option Elab.async false
set_option linter.all false
set_option maxRecDepth 100000
set_option maxHeartbeats 4000000
/-! The count. -/
namespace Ev
open PySem L2
section
variable {R : List Row}
def isPut : Deed → Bool
  | .put _ => true
  | _ => false
def cAt (code : List Nat) (i : Nat) : Nat := code.getD i 0
def decL (R : List Row) (code : List Nat) : List Nat := (List.range R.length).filter fun i => decide (cAt code i = 0)
def decC (R : List Row) (code : List Nat) : List Nat := ordr (fun i => cAt code i - 2) ((List.range R.length).filter fun i => isPut (rwA R i).dd && decide (2 ≤ cAt code i))
def dec (R : List Row) (code : List Nat) : D := keyN (decL R code) ((List.range 10).map fun f => tot R (decL R code) (decC R code) (cAt code) f % 1000)
theorem ordr_congr {b b' : Nat → Nat} {M : List Nat} (h : ∀ x ∈ M, b x = b' x) : ordr b M = ordr b' M := by
  unfold ordr
  split
  · rename_i x y
    rw [h x (by simp)]
  · rename_i x y z
    rw [h x (by simp), h y (by simp), h z (by simp)]
  · rfl
theorem ws_ext {ws : List Int} {g : Nat → Int} (hl : ws.length = 10) (h : ∀ f, f < 10 → gt ws f = g f) : ws = (List.range 10).map g := by
  refine List.ext_getElem (by simp [hl]) fun i h1 h2 => ?_
  have := h i (by omega)
  unfold gt at this
  simp [h1] at this ⊢
  exact this
theorem chain_len {left : List Nat} {ws : List Int} {c : List Nat} {st : Nat → Nat} (sy : Sy R left ws c st) : c.length ≤ 3 := by
  have := nodup_sub (L := [0, 4, 9].filterMap fun f => c.find? (cov R f)) sy.nd fun x hx => by
    obtain ⟨f, hf, e⟩ := sy.own x hx
    exact List.mem_filterMap.mpr ⟨f, in3_mem hf, e⟩
  exact Nat.le_trans this (List.length_filterMap_le _ _)
theorem cov_put {f x : Nat} (h : cov R f x = true) : isPut (rwA R x).dd = true := by
  unfold cov putD at h
  cases q : (rwA R x).dd with
  | put ps => rfl
  | look fs => rw [q] at h; cases h
  | add g w => rw [q] at h; cases h
  | move a b m => rw [q] at h; cases h
theorem count_ok : Cnt := by
  intro R m hH hn hF3
  have hF : ∀ j, j < R.length → (rwA R j).dd.F3 := fun j hj => hF3 _ (by simp [rwA, hj])
  have hO : ∀ j, j < R.length → (rwA R j).dd.Ok := fun j hj => (hH.1 (rwA R j) (by simp [rwA, hj])).2.1
  refine count_by (dec R) (fun l w hr => ?_) hn
  obtain ⟨p, hp⟩ := rch_left hr
  obtain ⟨hl, c, st, sy⟩ := rch_sy hF hO hr
  have hM : ((List.range R.length).filter fun i => decide (i ∈ c)).Nodup := List.nodup_range.filter _
  have mem : ∀ x, x ∈ c ↔ x ∈ (List.range R.length).filter fun i => decide (i ∈ c) := fun x =>
    ⟨fun h => List.mem_filter.mpr ⟨List.mem_range.mpr (sy.ex x h).1, by simp [h]⟩, fun h => by simpa using (List.mem_filter.mp h).2⟩
  have ml : ((List.range R.length).filter fun i => decide (i ∈ c)).length ≤ 3 := Nat.le_trans (nodup_sub hM fun x hx => (mem x).mpr hx) (chain_len sy)
  obtain ⟨b, b1, b2⟩ := ordr_all hM sy.nd mem ml
  let g : Nat → Nat := fun i => if i ∈ l then 0 else if isPut (rwA R i).dd then (if i ∈ c then 2 + b i else 1) else st i
  have at_ : ∀ i, i < R.length → cAt ((List.range R.length).map g) i = g i := fun i hi => by
    unfold cAt
    simp [hi]
  have g0 : ∀ i, g i = 0 ↔ i ∈ l := fun i => by
    show (if i ∈ l then 0 else if isPut (rwA R i).dd then (if i ∈ c then 2 + b i else 1) else st i) = 0 ↔ _
    have := sy.s i
    by_cases h1 : i ∈ l
    · simp [h1]
    · by_cases h2 : isPut (rwA R i).dd = true <;> by_cases h3 : i ∈ c <;> simp [h1, h2, h3] <;> omega
  refine ⟨(List.range R.length).map g, by simp, fun x hx => ?_, ?_⟩
  · obtain ⟨i, _, rfl⟩ := List.mem_map.mp hx
    show (if i ∈ l then 0 else if isPut (rwA R i).dd then (if i ∈ c then 2 + b i else 1) else st i) < 4
    have := sy.s i
    have := b1 i
    repeat' split
    all_goals omega
  · have eL : decL R ((List.range R.length).map g) = l := by
      unfold decL
      rw [hp]
      refine List.filter_congr fun i hi => ?_
      rw [at_ i (List.mem_range.mp hi)]
      have := g0 i
      rw [hp] at this
      rw [Bool.eq_iff_iff, decide_eq_true_eq]
      have m2 : i ∈ (List.range R.length).filter p ↔ p i = true := by
        rw [List.mem_filter]
        exact ⟨fun z => z.2, fun z => ⟨hi, z⟩⟩
      rw [← m2]
      exact hp ▸ g0 i
    have eC : decC R ((List.range R.length).map g) = c := by
      unfold decC
      have eM : ((List.range R.length).filter fun i => isPut (rwA R i).dd && decide (2 ≤ cAt ((List.range R.length).map g) i)) = (List.range R.length).filter fun i => decide (i ∈ c) := by
        refine List.filter_congr fun i hi => ?_
        rw [at_ i (List.mem_range.mp hi)]
        rw [Bool.eq_iff_iff]
        simp only [Bool.and_eq_true, decide_eq_true_eq]
        constructor
        · rintro ⟨h1, h2⟩
          have h2' : 2 ≤ (if i ∈ l then 0 else if isPut (rwA R i).dd then (if i ∈ c then 2 + b i else 1) else st i) := h2
          by_cases h3 : i ∈ c
          · exact h3
          · simp [h1, h3] at h2'
            split at h2' <;> omega
        · intro h3
          obtain ⟨f, _, e⟩ := sy.own i h3
          have hp2 := cov_put (List.find?_some e)
          refine ⟨hp2, ?_⟩
          show 2 ≤ (if i ∈ l then 0 else if isPut (rwA R i).dd then (if i ∈ c then 2 + b i else 1) else st i)
          simp [(sy.ex i h3).2, hp2, h3]
      rw [eM]
      refine (ordr_congr fun x hx => ?_).trans b2
      have h3 := (mem x).mpr hx
      obtain ⟨f, _, e⟩ := sy.own x h3
      have hp2 := cov_put (List.find?_some e)
      rw [at_ x (sy.ex x h3).1]
      show (if x ∈ l then 0 else if isPut (rwA R x).dd then (if x ∈ c then 2 + b x else 1) else st x) - 2 = b x
      simp [(sy.ex x h3).2, hp2, h3]
    unfold dec
    rw [eL, eC]
    have eW : w = (List.range 10).map fun f => tot R l c (cAt ((List.range R.length).map g)) f % 1000 := ws_ext sy.w.1 fun f hf => by
      rw [sy.v f hf]
      unfold tot
      congr 2
      refine (sum_same fun j hj => ?_).symm
      by_cases h1 : j ∈ l
      · rw [if_pos h1, if_pos h1]
      · rw [if_neg h1, if_neg h1, at_ j (List.mem_range.mp hj)]
        show contr R c (if j ∈ l then 0 else if isPut (rwA R j).dd then (if j ∈ c then 2 + b j else 1) else st j) f _ = _
        rw [if_neg h1]
        cases hd : (rwA R j).dd with
        | put ps => rfl
        | look fs => rfl
        | add x y => simp [isPut]
        | move x y z => simp [isPut]
    rw [← eW]
theorem law_runs : LawRuns := runs_of count_ok
end
end Ev

theorem PySem.Challenge.cw_lentfiles_k02_whole_histories_judged_holds : PySem.Challenge.rw_lentfiles_k02_whole_histories_judged.Holds := by
  exact Ev.holds_of Ev.law_runs
