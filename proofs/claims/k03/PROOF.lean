import PyProof.Rows.All
import Wide.All
import OpenK.AllK
import Wide.FinOn
import HandS.ForMost
import HandS.IsInst
import HandS.Deep
import HandS.TupAny
import HandS.TupMul
import HandS.Style
import HandS.SortInts
import HandS.Strs
import HandS.SetFor
import HandS.Zip
import HandS.Conv
import KE.KSortedM
import HandS.NoneIn
import HandS.Sort
import HandS.Defaults
import HandS.Words
import HandS.Head0
import HandS.Head1
import HandS.Head2
import HandS.HeadEnd
import HandS.HeadHook1
import HandS.HeadHook2
import HandS.DictTup
import PyProof.DictMoreH
import HandS.SortRule
import KE.KDictCopyH
import KE.KDictPairs
import HandS.Nested
import KE.KDflt
import HandS.HotCalls
import PyProof.Seq
import HandS.ExcCtx
import HandS.ExcIs
import HandS.ExcInit
import HandS.ExcField
import KE.KExcIs
import HandS.Text
import HandS.HeadHook4
import HandS.HeadWalk
import PySem.Challenge.RW_lentfiles_k03_histories_refused
set_option Elab.async false
set_option linter.all false
set_option maxRecDepth 100000
set_option maxHeartbeats 4000000
namespace Ev
open PySem L2
inductive DK where
  | K | T | N
  deriving DecidableEq, Repr
inductive D where
  | non
  | bl (b : Bool)
  | int (i : Int)
  | str (s : Str)
  | tup (xs : List D)
  | ob (h : Nat)
  deriving Repr, Inhabited
mutual
def D.beq : D → D → Bool
  | .non, .non => true
  | .bl a, .bl b => a == b
  | .int a, .int b => decide (a = b)
  | .str a, .str b => decide (a = b)
  | .tup a, .tup b => D.beqs a b
  | .ob a, .ob b => decide (a = b)
  | _, _ => false
def D.beqs : List D → List D → Bool
  | [], [] => true
  | x :: xs, y :: ys => D.beq x y && D.beqs xs ys
  | _, _ => false
end
mutual
theorem D.beq_refl : ∀ a : D, D.beq a a = true
  | .non => rfl
  | .bl b => by cases b <;> rfl
  | .int i => by simp [D.beq]
  | .str s => by simp [D.beq]
  | .tup xs => by simp only [D.beq]; exact D.beqs_refl xs
  | .ob h => by simp [D.beq]
theorem D.beqs_refl : ∀ a : List D, D.beqs a a = true
  | [] => rfl
  | x :: xs => by simp only [D.beqs, D.beq_refl x, D.beqs_refl xs, Bool.and_self]
end
mutual
theorem D.eq_of_beq : ∀ a b : D, D.beq a b = true → a = b
  | .non, b, h => by cases b <;> simp [D.beq] at h ⊢
  | .bl x, b, h => by cases b <;> simp [D.beq] at h ⊢; exact h
  | .int x, b, h => by cases b <;> simp [D.beq] at h ⊢; exact h
  | .str x, b, h => by cases b <;> simp [D.beq] at h ⊢; exact h
  | .tup xs, b, h => by
    cases b <;> simp [D.beq] at h ⊢
    exact D.eq_of_beqs xs _ h
  | .ob x, b, h => by cases b <;> simp [D.beq] at h ⊢; exact h
theorem D.eq_of_beqs : ∀ a b : List D, D.beqs a b = true → a = b
  | [], b, h => by cases b <;> simp [D.beqs] at h ⊢
  | x :: xs, b, h => by
    cases b with
    | nil => simp [D.beqs] at h
    | cons y ys =>
      simp only [D.beqs, Bool.and_eq_true] at h
      rw [D.eq_of_beq x y h.1, D.eq_of_beqs xs ys h.2]
end
instance : DecidableEq D := fun a b => if h : D.beq a b = true then isTrue (D.eq_of_beq a b h) else isFalse fun e => h (by rw [e]; exact D.beq_refl b)
inductive R where
  | v (d : D)
  | l (xs : List D)
  | b (xs : List D)
  | f (xs : List D)
  | c (xs : List D)
  | d (k : DK) (kvs : List (D × D))
  | bd (k : DK) (kvs : List (D × D))
  | pr (a b : R)
  deriving Repr, Inhabited
inductive Ob where
  | lst (xs : List D)
  | dic (k : DK) (kvs : List (D × D))
  | lck (k : DK) (kvs : List (D × D))
  | ins (c : Nat) (fs : List (Nat × D))
  deriving Repr, Inhabited, DecidableEq
abbrev Store := List Ob
inductive Sl where
  | no
  | v (d : D)
  | l (xs : List D)
  | b (xs : List D)
  | f (xs : List D)
  | d (k : DK) (kvs : List (D × D))
  deriving Repr, Inhabited, DecidableEq
abbrev Env := List Sl
abbrev E := Env → Store → Option (R × Store)
abbrev Ru := List R → Store → Option (R × Store)
mutual
inductive Rep (ι : Nat → Addr) (n : Nat) (H : Hp) : D → V → Prop
  | non : Rep ι n H .non .non
  | bl (b : Bool) : Rep ι n H (.bl b) (.bl b)
  | int (i : Int) : Rep ι n H (.int i) (.int i)
  | str (s : Str) : Rep ι n H (.str s) (.str s)
  | tup {xs : List D} {a : Addr} {vs : List V} : H a = some (.tup vs) → Reps ι n H xs vs → Rep ι n H (.tup xs) (.ref a)
  | ob {h : Nat} : h < n → Rep ι n H (.ob h) (.ref (ι h))
inductive Reps (ι : Nat → Addr) (n : Nat) (H : Hp) : List D → List V → Prop
  | nil : Reps ι n H [] []
  | cons {d : D} {ds : List D} {v : V} {vs : List V} : Rep ι n H d v → Reps ι n H ds vs → Reps ι n H (d :: ds) (v :: vs)
end
section
variable {ι ι' : Nat → Addr} {n n' : Nat} {H H' : Hp}
mutual
theorem Rep.mono (hn : n ≤ n') (hi : ∀ h, h < n → ι' h = ι h) (ht : ∀ a vs, H a = some (.tup vs) → H' a = some (.tup vs)) : ∀ (d : D) (v : V), Rep ι n H d v → Rep ι' n' H' d v
  | .non, _, h => by cases h; exact .non
  | .bl b, _, h => by cases h; exact .bl b
  | .int i, _, h => by cases h; exact .int i
  | .str s, _, h => by cases h; exact .str s
  | .tup xs, _, h => by
    cases h with
    | tup hs hr => exact .tup (ht _ _ hs) (Reps.mono hn hi ht xs _ hr)
  | .ob k, _, h => by
    cases h with
    | ob hk =>
      rw [← hi k hk]
      exact .ob (Nat.lt_of_lt_of_le hk hn)
theorem Reps.mono (hn : n ≤ n') (hi : ∀ h, h < n → ι' h = ι h) (ht : ∀ a vs, H a = some (.tup vs) → H' a = some (.tup vs)) : ∀ (ds : List D) (vs : List V), Reps ι n H ds vs → Reps ι' n' H' ds vs
  | [], _, h => by cases h; exact .nil
  | d :: ds, _, h => by
    cases h with
    | cons h1 h2 => exact .cons (Rep.mono hn hi ht d _ h1) (Reps.mono hn hi ht ds _ h2)
end
theorem Reps.length : ∀ {ds : List D} {vs : List V}, Reps ι n H ds vs → ds.length = vs.length
  | [], _, h => by cases h; rfl
  | _ :: ds, _, h => by
    cases h with
    | cons _ h2 => simp [Reps.length h2]
theorem Reps.get : ∀ {ds : List D} {vs : List V} {i : Nat} {d : D}, Reps ι n H ds vs → ds[i]? = some d → ∃ v, vs[i]? = some v ∧ Rep ι n H d v
  | [], _, _, _, _, e => by simp at e
  | d :: ds, _, 0, _, h, e => by
    cases h with
    | cons h1 h2 => simp at e; subst e; exact ⟨_, rfl, h1⟩
  | d :: ds, _, i + 1, x, h, e => by
    cases h with
    | cons h1 h2 =>
      obtain ⟨v, e1, r⟩ := Reps.get (i := i) (d := x) h2 (by simpa using e)
      exact ⟨v, by simpa using e1, r⟩
theorem Reps.append : ∀ {ds es : List D} {vs us : List V}, Reps ι n H ds vs → Reps ι n H es us → Reps ι n H (ds ++ es) (vs ++ us)
  | [], _, _, _, h, h' => by cases h; exact h'
  | _ :: ds, _, _, _, h, h' => by
    cases h with
    | cons h1 h2 => exact .cons h1 (Reps.append h2 h')
theorem Reps.take : ∀ {ds : List D} {vs : List V} (k : Nat), Reps ι n H ds vs → Reps ι n H (ds.take k) (vs.take k)
  | _, _, 0, _ => by simp; exact .nil
  | [], _, k + 1, h => by cases h; simp; exact .nil
  | _ :: ds, _, k + 1, h => by
    cases h with
    | cons h1 h2 => simp; exact .cons h1 (Reps.take k h2)
theorem Reps.drop : ∀ {ds : List D} {vs : List V} (k : Nat), Reps ι n H ds vs → Reps ι n H (ds.drop k) (vs.drop k)
  | _, _, 0, h => by simpa using h
  | [], _, k + 1, h => by cases h; simp; exact .nil
  | _ :: ds, _, k + 1, h => by
    cases h with
    | cons h1 h2 => simp; exact Reps.drop k h2
theorem Reps.set : ∀ {ds : List D} {vs : List V} (k : Nat) {d : D} {v : V}, Reps ι n H ds vs → Rep ι n H d v → Reps ι n H (ds.set k d) (vs.set k v)
  | [], _, _, _, _, h, _ => by cases h; simp; exact .nil
  | _ :: ds, _, 0, _, _, h, r => by
    cases h with
    | cons h1 h2 => exact .cons r h2
  | _ :: ds, _, k + 1, _, _, h, r => by
    cases h with
    | cons h1 h2 => exact .cons h1 (Reps.set k h2 r)
theorem Reps.eraseIdx : ∀ {ds : List D} {vs : List V} (k : Nat), Reps ι n H ds vs → Reps ι n H (ds.eraseIdx k) (vs.eraseIdx k)
  | [], _, _, h => by cases h; simp; exact .nil
  | _ :: ds, _, 0, h => by
    cases h with
    | cons h1 h2 => simpa using h2
  | _ :: ds, _, k + 1, h => by
    cases h with
    | cons h1 h2 => simp; exact .cons h1 (Reps.eraseIdx k h2)
end
end Ev
namespace Ev
open PySem L2
structure Wd where
  P : Program
  w : World
  K : PySem.W.Frag
  CA : Nat → Addr
  FN : List Str
def keyD : Key → D
  | .inl i => .int i
  | .inr s => .str s
theorem keyD_inj {a b : Key} (e : keyD a = keyD b) : a = b := by
  cases a <;> cases b <;> simp [keyD] at e <;> simp [e]
inductive All2 {α β : Type} (F : α → β → Prop) : List α → List β → Prop
  | nil : All2 F [] []
  | cons {a : α} {b : β} {as : List α} {bs : List β} : F a b → All2 F as bs → All2 F (a :: as) (b :: bs)
theorem All2.mono {α β : Type} {F G : α → β → Prop} : ∀ {as : List α} {bs : List β}, All2 F as bs → (∀ a b, F a b → G a b) → All2 G as bs
  | _, _, .nil, _ => .nil
  | _, _, .cons h t, f => .cons (f _ _ h) (t.mono f)
theorem All2.length {α β : Type} {F : α → β → Prop} : ∀ {as : List α} {bs : List β}, All2 F as bs → as.length = bs.length
  | _, _, .nil => rfl
  | _, _, .cons _ t => by simp [t.length]
theorem All2.append {α β : Type} {F : α → β → Prop} : ∀ {as cs : List α} {bs ds : List β}, All2 F as bs → All2 F cs ds → All2 F (as ++ cs) (bs ++ ds)
  | _, _, _, _, .nil, h => h
  | _, _, _, _, .cons h t, q => .cons h (t.append q)
theorem All2.get {α β : Type} {F : α → β → Prop} : ∀ {as : List α} {bs : List β} {i : Nat} {a : α}, All2 F as bs → as[i]? = some a → ∃ b, bs[i]? = some b ∧ F a b
  | _, _, _, _, .nil, e => by simp at e
  | _, _, 0, _, .cons h t, e => by simp at e; subst e; exact ⟨_, rfl, h⟩
  | _, _, i + 1, _, .cons h t, e => by
    obtain ⟨b, e1, q⟩ := All2.get (i := i) t (by simpa using e)
    exact ⟨b, by simpa using e1, q⟩
def NestAt (H : Hp) (kss : List (List Int)) (a : Addr) : Prop :=
  ∃ as : List Addr, H a = some (.tup (as.map V.ref)) ∧ All2 (fun is b => H b = some (.tup (is.map V.int))) kss as
def nestD (kss : List (List Int)) : D := .tup (kss.map fun is => .tup (is.map D.int))
def nestHash (kss : List (List Int)) : Int := reduceHash (Builtin.Tuple.tupleHashOf (kss.map fun is => reduceHash (Builtin.Tuple.tupleHashOf (is.map hashInt))))
def dictN (a : Addr) (xs : List (List (List Int) × Addr)) : Heap → Prop := fun h =>
  ∃ o es ep, h.get? a = some o ∧ o.ExactDict ∧ o.data = .dict es ep ∧ es.toList = xs.map fun x => (⟨nestHash x.1, .ref x.2, .bool true⟩ : DictEntry)
def DicAt (ι : Nat → Addr) (n : Nat) (H : Hp) (a : Addr) : DK → List (D × D) → Prop
  | .K, kvs => ∃ kv : List (Key × V), H a = some (.dK kv) ∧ All2 (fun (p : D × D) (q : Key × V) => p.1 = keyD q.1 ∧ Rep ι n H p.2 q.2) kvs kv
  | .T, kvs => ∃ kv : List (List Key × V), H a = some (.dT kv) ∧ All2 (fun (p : D × D) (q : List Key × V) => p.1 = .tup (q.1.map keyD) ∧ Rep ι n H p.2 q.2) kvs kv
  | .N, kvs => ∃ xs : List (List (List Int) × Addr), H a = some (.ext (dictN a xs)) ∧ (xs.map (·.1)).Nodup ∧ xs.length ≤ sizeLine ∧ (a == sysModules) = false ∧
      All2 (fun (p : D × D) (q : List (List Int) × Addr) => p.1 = nestD q.1 ∧ p.2 = .bl true ∧ NestAt H q.1 q.2) kvs xs
structure Ext (ι : Nat → Addr) (n : Nat) (H : Hp) (ι' : Nat → Addr) (n' : Nat) (H' : Hp) : Prop where
  le : n ≤ n'
  same : ∀ h, h < n → ι' h = ι h
  keep : ∀ a o, H a = some o → (∀ h, h < n → a ≠ ι h) → H' a = some o
  new : ∀ h, n ≤ h → h < n' → H (ι' h) = none
  frz : ∀ a o u, H a = some (.frz o u) → H' a = some (.frz o u)
def LckAt (ι : Nat → Addr) (n : Nat) (H : Hp) (a : Addr) (o : Obj) : DK → List (D × D) → Prop
  | .K, kvs => ∃ kv : List (Key × V), H a = some (.frz o (.dK kv)) ∧ All2 (fun (p : D × D) (q : Key × V) => p.1 = keyD q.1 ∧ Rep ι n H p.2 q.2) kvs kv
  | .T, kvs => ∃ kv : List (List Key × V), H a = some (.frz o (.dT kv)) ∧ All2 (fun (p : D × D) (q : List Key × V) => p.1 = .tup (q.1.map keyD) ∧ Rep ι n H p.2 q.2) kvs kv
  | .N, _ => False
def FldsR (W : Wd) (ι : Nat → Addr) (n : Nat) (H : Hp) : List (Nat × D) → List (Str × V) → Prop := All2 fun p q => W.FN[p.1]? = some q.1 ∧ Rep ι n H p.2 q.2
def RepO (W : Wd) (ι : Nat → Addr) (n : Nat) (H : Hp) (a : Addr) : Ob → Prop
  | .lst xs => ∃ vs, H a = some (.lst vs) ∧ Reps ι n H xs vs
  | .dic k kvs => DicAt ι n H a k kvs
  | .lck k kvs => ∃ o : Obj, LckAt ι n H a o k kvs
  | .ins c fs => ∃ dx vs, H a = some (.ins (W.CA c) dx vs) ∧ FldsR W ι n H fs vs
structure RSt (W : Wd) (ι : Nat → Addr) (H : Hp) (S : Store) : Prop where
  at_ : ∀ h o, S[h]? = some o → RepO W ι S.length H (ι h) o
  inj : ∀ i j, i < S.length → j < S.length → ι i = ι j → i = j
theorem mut_dic {ι : Nat → Addr} {n : Nat} {H : Hp} {a : Addr} {k : DK} {kvs : List (D × D)} (h : DicAt ι n H a k kvs) : Mut (H a) := by
  cases k with
  | K => obtain ⟨_, e, _⟩ := h; rw [e]; trivial
  | T => obtain ⟨_, e, _⟩ := h; rw [e]; trivial
  | N => obtain ⟨_, e, _⟩ := h; rw [e]; trivial
def Sto : Option HO → Prop
  | some (.tup _) => False
  | some (.own _) => False
  | some _ => True
  | none => False
theorem sto_of {o : Option HO} (h : Mut o) : Sto o := by
  cases o with
  | none => exact h
  | some u => cases u <;> first | exact trivial | exact h
theorem RepO.sto {W : Wd} {ι : Nat → Addr} {n : Nat} {H : Hp} {a : Addr} {o : Ob} (h : RepO W ι n H a o) : Sto (H a) := by
  cases o with
  | lst xs => obtain ⟨_, e, _⟩ := h; rw [e]; trivial
  | dic k kvs => exact sto_of (mut_dic h)
  | lck k kvs =>
    obtain ⟨_, h⟩ := h
    cases k with
    | K => obtain ⟨_, e, _⟩ := h; rw [e]; trivial
    | T => obtain ⟨_, e, _⟩ := h; rw [e]; trivial
    | N => exact h.elim
  | ins c fs => obtain ⟨_, _, e, _⟩ := h; rw [e]; trivial
theorem mut_some {o : Option HO} (h : Mut o) : ∃ u, o = some u := by
  cases o with
  | none => exact h.elim
  | some u => exact ⟨u, rfl⟩
section
variable {W : Wd} {ι ι' ι2 : Nat → Addr} {n n' n2 : Nat} {H H' H2 H0 : Hp} {S S' S2 : Store}
theorem RSt.sto (R : RSt W ι H S) {h : Nat} (hh : h < S.length) : Sto (H (ι h)) := by
  have e : S[h]? = some S[h] := by simp [hh]
  exact (R.at_ h _ e).sto
theorem RSt.tup_ne (R : RSt W ι H S) {a : Addr} {vs : List V} (e : H a = some (.tup vs)) : ∀ h, h < S.length → a ≠ ι h := fun h hh z => by
  have m := R.sto hh
  rw [← z, e] at m
  exact m
theorem Ext.refl : Ext ι n H ι n H := ⟨Nat.le_refl _, fun _ _ => rfl, fun _ _ e _ => e, fun h h1 h2 => absurd h2 (by omega), fun _ _ _ e => e⟩
theorem Ext.tup (X : Ext ι S.length H ι' n' H') (R : RSt W ι H S) : ∀ a vs, H a = some (.tup vs) → H' a = some (.tup vs) := fun a vs e => X.keep a _ e (R.tup_ne e)
theorem Ext.dom (X : Ext ι S.length H ι' S'.length H') (R : RSt W ι' H' S') {a : Addr} (e : H' a = none) : H a = none := by
  cases q : H a with
  | none => rfl
  | some o =>
    by_cases hh : ∃ h, h < S.length ∧ a = ι h
    · obtain ⟨h, h1, h2⟩ := hh
      have m := R.sto (Nat.lt_of_lt_of_le h1 X.le)
      rw [X.same h h1, ← h2, e] at m
      exact m.elim
    · rw [X.keep a o q fun h h1 h2 => hh ⟨h, h1, h2⟩] at e
      cases e
theorem Ext.trans (X : Ext ι S.length H ι' S'.length H') (Y : Ext ι' S'.length H' ι2 n2 H2) (R : RSt W ι' H' S') : Ext ι S.length H ι2 n2 H2 where
  le := Nat.le_trans X.le Y.le
  same := fun h hh => (Y.same h (Nat.lt_of_lt_of_le hh X.le)).trans (X.same h hh)
  keep := fun a o e ha => Y.keep a o (X.keep a o e ha) fun h hh z => by
    by_cases hn : h < S.length
    · exact ha h hn (z.trans (X.same h hn))
    · have q := X.new h (by omega) hh
      rw [← z, e] at q
      cases q
  new := fun h h1 h2 => by
    by_cases hn : h < S'.length
    · rw [Y.same h hn]; exact X.new h h1 hn
    · exact X.dom R (Y.new h (by omega) h2)
  frz := fun a o u e => Y.frz a o u (X.frz a o u e)
theorem Ext.apart (X : Ext ι n H ι' n' H') {a : Addr} {o : HO} (e : H a = some o) (ha : ∀ h, h < n → a ≠ ι h) : ∀ h, h < n' → a ≠ ι' h := fun h hh z => by
  by_cases hn : h < n
  · exact ha h hn (z.trans (X.same h hn))
  · have q := X.new h (by omega) hh
    rw [← z, e] at q
    cases q
theorem Rep.ext (X : Ext ι S.length H ι' n' H') (R : RSt W ι H S) {d : D} {v : V} (r : Rep ι S.length H d v) : Rep ι' n' H' d v := Rep.mono X.le X.same (X.tup R) d v r
theorem Reps.ext (X : Ext ι S.length H ι' n' H') (R : RSt W ι H S) {d : List D} {v : List V} (r : Reps ι S.length H d v) : Reps ι' n' H' d v := Reps.mono X.le X.same (X.tup R) d v r
theorem NestAt.mono (ht : ∀ a vs, H a = some (.tup vs) → H' a = some (.tup vs)) {kss : List (List Int)} {a : Addr} (h : NestAt H kss a) : NestAt H' kss a := by
  obtain ⟨as, e, r⟩ := h
  exact ⟨as, ht _ _ e, r.mono fun _ _ q => ht _ _ q⟩
theorem DicAt.mono {a : Addr} {k : DK} {kvs : List (D × D)} (hn : n ≤ n') (hi : ∀ h, h < n → ι' h = ι h) (ht : ∀ a vs, H a = some (.tup vs) → H' a = some (.tup vs)) (hk : ∀ o, H a = some o → H' a = some o) (h : DicAt ι n H a k kvs) : DicAt ι' n' H' a k kvs := by
  cases k with
  | K =>
    obtain ⟨kv, e, r⟩ := h
    exact ⟨kv, hk _ e, r.mono fun p q z => ⟨z.1, Rep.mono hn hi ht _ _ z.2⟩⟩
  | T =>
    obtain ⟨kv, e, r⟩ := h
    exact ⟨kv, hk _ e, r.mono fun p q z => ⟨z.1, Rep.mono hn hi ht _ _ z.2⟩⟩
  | N =>
    obtain ⟨xs, e, nd, z, y, r⟩ := h
    exact ⟨xs, hk _ e, nd, z, y, r.mono fun p q z => ⟨z.1, z.2.1, z.2.2.mono ht⟩⟩
theorem RepO.mono {a : Addr} {o : Ob} (hn : n ≤ n') (hi : ∀ h, h < n → ι' h = ι h) (ht : ∀ a vs, H a = some (.tup vs) → H' a = some (.tup vs)) (hk : ∀ o, H a = some o → H' a = some o) (h : RepO W ι n H a o) : RepO W ι' n' H' a o := by
  cases o with
  | lst xs => obtain ⟨vs, e, r⟩ := h; exact ⟨vs, hk _ e, Reps.mono hn hi ht _ _ r⟩
  | dic k kvs => exact DicAt.mono hn hi ht hk h
  | lck k kvs =>
    obtain ⟨o, h⟩ := h
    refine ⟨o, ?_⟩
    cases k with
    | K => obtain ⟨kv, e, r⟩ := h; exact ⟨kv, hk _ e, r.mono fun p q z => ⟨z.1, Rep.mono hn hi ht _ _ z.2⟩⟩
    | T => obtain ⟨kv, e, r⟩ := h; exact ⟨kv, hk _ e, r.mono fun p q z => ⟨z.1, Rep.mono hn hi ht _ _ z.2⟩⟩
    | N => exact h.elim
  | ins c fs => obtain ⟨dx, vs, e, r⟩ := h; exact ⟨dx, vs, hk _ e, r.mono fun p q z => ⟨z.1, Rep.mono hn hi ht _ _ z.2⟩⟩
def flatOf : D → Option V
  | .non => some .non
  | .bl b => some (.bl b)
  | .int i => some (.int i)
  | .str s => some (.str s)
  | _ => none
def flatsOf : List D → Option (List V)
  | [] => some []
  | x :: xs => match flatOf x, flatsOf xs with
    | some v, some vs => some (v :: vs)
    | _, _ => none
def FrzL (W : Wd) (ι : Nat → Addr) (n : Nat) (H : Hp) (a : Addr) (vs : List V) : Prop :=
  (∃ o, H a = some (.frz o (.lst vs)) ∧ ∀ h, h < n → a ≠ ι h) ∨
    ∃ (o : Obj) (its : Array Value) (m : Nat), W.K.lookup a = some o ∧ o.cls = .type "list" ∧ o.dict = none ∧ o.data = .seq its m ∧ its.size ≤ sizeLine ∧ Vals vs its.toList
theorem FrzL.sqL {W : Wd} {ι : Nat → Addr} {n : Nat} {H : Hp} {a : Addr} {vs : List V} (h : FrzL W ι n H a vs) : SqL W.K H a vs := by
  rcases h with ⟨o, h, _⟩ | h
  · exact .inl (.inr ⟨o, h⟩)
  · exact .inr h
def RR (W : Wd) (H0 : Hp) (ι : Nat → Addr) (n : Nat) (H : Hp) : R → V → Prop
  | .v d, v => Rep ι n H d v
  | .l xs, v => ∃ a vs, v = .ref a ∧ H a = some (.lst vs) ∧ Reps ι n H xs vs ∧ H0 a = none ∧ ∀ h, h < n → a ≠ ι h
  | .b xs, v => ∃ a vs, v = .ref a ∧ H a = some (.lst vs) ∧ Reps ι n H xs vs ∧ ∀ h, h < n → a ≠ ι h
  | .f xs, v => ∃ a vs, v = .ref a ∧ FrzL W ι n H a vs ∧ Reps ι n H xs vs
  | .c xs, v => ∃ a vs, v = .ref a ∧ flatsOf xs = some vs ∧ ∀ H1 : Hp, SqT W.K H1 a vs
  | .d k kvs, v => ∃ a, v = .ref a ∧ DicAt ι n H a k kvs ∧ H0 a = none ∧ ∀ h, h < n → a ≠ ι h
  | .bd k kvs, v => ∃ a, v = .ref a ∧ DicAt ι n H a k kvs ∧ ∀ h, h < n → a ≠ ι h
  | .pr r q, v => ∃ a x y, v = .ref a ∧ H a = some (.tup [x, y]) ∧ RR W H0 ι n H r x ∧ RR W H0 ι n H q y ∧ (x = y → (∃ d, r = .v d) ∨ ∃ d, q = .v d)
def SlOk (W : Wd) (H0 : Hp) (ι : Nat → Addr) (n : Nat) (H : Hp) (o : Option V) : Sl → Prop
  | .no => True
  | .v d => ∃ v, o = some v ∧ Rep ι n H d v
  | .l xs => ∃ a vs, o = some (.ref a) ∧ H a = some (.lst vs) ∧ Reps ι n H xs vs ∧ H0 a = none ∧ ∀ h, h < n → a ≠ ι h
  | .b xs => ∃ a vs, o = some (.ref a) ∧ H a = some (.lst vs) ∧ Reps ι n H xs vs ∧ ∀ h, h < n → a ≠ ι h
  | .f xs => ∃ a vs, o = some (.ref a) ∧ FrzL W ι n H a vs ∧ Reps ι n H xs vs
  | .d k kvs => ∃ a, o = some (.ref a) ∧ DicAt ι n H a k kvs ∧ H0 a = none ∧ ∀ h, h < n → a ≠ ι h
def Sl.own : Sl → Bool
  | .l _ => true
  | .d _ _ => true
  | _ => false
def Sl.lends : Sl → Bool
  | .l _ => true
  | .b _ => true
  | .d _ _ => true
  | _ => false
structure REnv (W : Wd) (H0 : Hp) (ι : Nat → Addr) (n : Nat) (H : Hp) (ρ : Env) (σ : St) : Prop where
  len : ρ.length = σ.length
  at_ : ∀ (i : Nat) s o, ρ[i]? = some s → σ[i]? = some o → SlOk W H0 ι n H o s
  sep : ∀ (i j : Nat) s t a, i ≠ j → ρ[i]? = some s → ρ[j]? = some t → s.own = true → t.lends = true → σ[i]? = some (some (.ref a)) → σ[j]? ≠ some (some (.ref a))
theorem Rd.ext (X : Ext ι n H ι' n' H') {a : Addr} {vs : List V} (h : Rd H a (.lst vs)) (ha : ∀ h, h < n → a ≠ ι h) : Rd H' a (.lst vs) := by
  rcases h with h | ⟨o, h⟩
  · exact .inl (X.keep _ _ h ha)
  · exact .inr ⟨o, X.keep _ _ h ha⟩
theorem Rd.there {a : Addr} {u : HO} (h : Rd H a u) : ∃ o, H a = some o := by
  rcases h with h | ⟨o, h⟩
  · exact ⟨_, h⟩
  · exact ⟨_, h⟩
theorem FrzL.ext (X : Ext ι n H ι' n' H') {a : Addr} {vs : List V} (h : FrzL W ι n H a vs) : FrzL W ι' n' H' a vs := by
  rcases h with ⟨o, h, ha⟩ | h
  · exact .inl ⟨o, X.keep _ _ h ha, X.apart h ha⟩
  · exact .inr h
theorem DicAt.there {a : Addr} {k : DK} {kvs : List (D × D)} (h : DicAt ι n H a k kvs) : ∃ o, H a = some o := mut_some (mut_dic h)
theorem RR.ext (X : Ext ι S.length H ι' n' H') (Z : RSt W ι H S) : ∀ (r : R) (v : V), RR W H0 ι S.length H r v → RR W H0 ι' n' H' r v
  | .v d, v, h => Rep.ext X Z h
  | .l xs, v, h => by
    obtain ⟨a, vs, e, e1, e2, e3, e4⟩ := h
    exact ⟨a, vs, e, X.keep _ _ e1 e4, e2.ext X Z, e3, X.apart e1 e4⟩
  | .b xs, v, h => by
    obtain ⟨a, vs, e, e1, e2, e4⟩ := h
    exact ⟨a, vs, e, X.keep _ _ e1 e4, e2.ext X Z, X.apart e1 e4⟩
  | .f xs, v, h => by
    obtain ⟨a, vs, e, e1, e2⟩ := h
    exact ⟨a, vs, e, e1.ext X, e2.ext X Z⟩
  | .c xs, v, h => h
  | .d k kvs, v, h => by
    obtain ⟨a, e, e1, e3, e4⟩ := h
    obtain ⟨o, q⟩ := e1.there
    exact ⟨a, e, e1.mono X.le X.same (X.tup Z) (fun o z => X.keep _ _ z e4), e3, X.apart q e4⟩
  | .bd k kvs, v, h => by
    obtain ⟨a, e, e1, e4⟩ := h
    obtain ⟨o, q⟩ := e1.there
    exact ⟨a, e, e1.mono X.le X.same (X.tup Z) (fun o z => X.keep _ _ z e4), X.apart q e4⟩
  | .pr r q, v, h => by
    obtain ⟨a, x, y, e, e1, e2, e3, e4⟩ := h
    exact ⟨a, x, y, e, X.tup Z _ _ e1, RR.ext X Z r x e2, RR.ext X Z q y e3, e4⟩
theorem RR.older (hd : ∀ a, H0 a = none → H2 a = none) : ∀ (r : R) (v : V), RR W H0 ι n H r v → RR W H2 ι n H r v
  | .v d, v, h => h
  | .l xs, v, h => by
    obtain ⟨a, vs, e, e1, e2, e3, e4⟩ := h
    exact ⟨a, vs, e, e1, e2, hd _ e3, e4⟩
  | .b xs, v, h => h
  | .f xs, v, h => h
  | .c xs, v, h => h
  | .d k kvs, v, h => by
    obtain ⟨a, e, e1, e3, e4⟩ := h
    exact ⟨a, e, e1, hd _ e3, e4⟩
  | .bd k kvs, v, h => h
  | .pr r q, v, h => by
    obtain ⟨a, x, y, e, e1, e2, e3, e4⟩ := h
    exact ⟨a, x, y, e, e1, RR.older hd r x e2, RR.older hd q y e3, e4⟩
theorem SlOk.ext (X : Ext ι S.length H ι' n' H') (R : RSt W ι H S) {o : Option V} : ∀ {s : Sl}, SlOk W H0 ι S.length H o s → SlOk W H0 ι' n' H' o s
  | .no, h => trivial
  | .v d, ⟨v, e, r⟩ => ⟨v, e, r.ext X R⟩
  | .l xs, ⟨a, vs, e, e1, e2, e3, e4⟩ => ⟨a, vs, e, X.keep _ _ e1 e4, e2.ext X R, e3, X.apart e1 e4⟩
  | .b xs, ⟨a, vs, e, e1, e2, e4⟩ => ⟨a, vs, e, X.keep _ _ e1 e4, e2.ext X R, X.apart e1 e4⟩
  | .f xs, ⟨a, vs, e, e1, e2⟩ => ⟨a, vs, e, e1.ext X, e2.ext X R⟩
  | .d k kvs, ⟨a, e, e1, e3, e4⟩ => by
    obtain ⟨o, q⟩ := e1.there
    exact ⟨a, e, e1.mono X.le X.same (X.tup R) (fun o z => X.keep _ _ z e4), e3, X.apart q e4⟩
theorem REnv.ext {ρ : Env} {σ : St} (h : REnv W H0 ι S.length H ρ σ) (X : Ext ι S.length H ι' n' H') (R : RSt W ι H S) : REnv W H0 ι' n' H' ρ σ :=
  ⟨h.len, fun i s o e1 e2 => (h.at_ i s o e1 e2).ext X R, h.sep⟩
def SimE (W : Wd) (t : TE) (f : E) : Prop := ∀ (σ : St) (H : Hp) (ι : Nat → Addr) (ρ : Env) (S : Store) (H0 : Hp) (r : R) (S' : Store),
  RSt W ι H S → REnv W H0 ι S.length H ρ σ → f ρ S = some (r, S') → ∀ Q : VK,
    (∀ v H' ι', RSt W ι' H' S' → Ext ι S.length H ι' S'.length H' → RR W H ι' S'.length H' r v → Q v H') → t σ H Q
end
end Ev
namespace Ev
open PySem L2
def bnd {α β : Type} (x : Option (α × Store)) (f : α → Store → Option β) : Option β :=
  match x with
  | some (a, S) => f a S
  | none => none
theorem zat {α β : Type} {x : Option (α × Store)} {f : α → Store → Option β} {y : β} (h : bnd x f = some y) : ∃ a S, x = some (a, S) ∧ f a S = some y := by
  unfold bnd at h
  split at h
  · exact ⟨_, _, rfl, h⟩
  · cases h
def R.flat : R → Option D
  | .v x => some x
  | _ => none
def R.seq (S : Store) : R → Option (List D)
  | .v (.tup xs) => some xs
  | .v (.ob h) => (match S[h]? with
    | some (.lst xs) => some xs
    | _ => none)
  | .l xs => some xs
  | .b xs => some xs
  | _ => none
def R.lseq (S : Store) : R → Option (List D)
  | .v (.ob h) => (match S[h]? with
    | some (.lst xs) => some xs
    | _ => none)
  | .l xs => some xs
  | .b xs => some xs
  | _ => none
def R.tlst (S : Store) : R → Option (List D)
  | .v (.ob h) => (match S[h]? with
    | some (.lst xs) => some xs
    | _ => none)
  | .l xs => some xs
  | .b xs => some xs
  | _ => none
section
variable {W : Wd} {ι ι' : Nat → Addr} {n n' : Nat} {H H' H0 : Hp} {S S' : Store} {ρ : Env} {σ : St}
theorem lseq_rep {r : R} {v : V} {xs : List D} (Z : RSt W ι H S) (h : RR W H0 ι S.length H r v) (e : r.lseq S = some xs) : ∃ a vs, v = .ref a ∧ Rd H a (.lst vs) ∧ Reps ι S.length H xs vs := by
  cases r with
  | v d =>
    cases d with
    | ob k =>
      cases h with
      | ob hk =>
        unfold R.lseq at e
        simp only at e
        split at e
        · rename_i ys q
          cases e
          obtain ⟨vs, e1, e2⟩ := Z.at_ k _ q
          exact ⟨_, vs, rfl, .inl e1, e2⟩
        · cases e
    | _ => cases e
  | l ys =>
    cases e
    obtain ⟨a, vs, e, e1, e2, _⟩ := h
    exact ⟨a, vs, e, .inl e1, e2⟩
  | b ys =>
    cases e
    obtain ⟨a, vs, e, e1, e2, _⟩ := h
    exact ⟨a, vs, e, .inl e1, e2⟩
  | _ => cases e
theorem tlst_rep {r : R} {v : V} {xs : List D} (Z : RSt W ι H S) (h : RR W H0 ι S.length H r v) (e : r.tlst S = some xs) : ∃ a vs, v = .ref a ∧ H a = some (.lst vs) ∧ Reps ι S.length H xs vs := by
  cases r with
  | v d =>
    cases d with
    | ob k =>
      cases h with
      | ob hk =>
        unfold R.tlst at e
        simp only at e
        split at e
        · rename_i ys q
          cases e
          obtain ⟨vs, e1, e2⟩ := Z.at_ k _ q
          exact ⟨_, vs, rfl, e1, e2⟩
        · cases e
    | _ => cases e
  | l ys =>
    cases e
    obtain ⟨a, vs, e, e1, e2, _⟩ := h
    exact ⟨a, vs, e, e1, e2⟩
  | b ys =>
    cases e
    obtain ⟨a, vs, e, e1, e2, _⟩ := h
    exact ⟨a, vs, e, e1, e2⟩
  | _ => cases e
theorem seq_rep {r : R} {v : V} {xs : List D} (Z : RSt W ι H S) (h : RR W H0 ι S.length H r v) (e : r.seq S = some xs) : ∃ a vs, v = .ref a ∧ (Rd H a (.lst vs) ∨ H a = some (.tup vs)) ∧ Reps ι S.length H xs vs := by
  cases r with
  | v d =>
    cases d with
    | ob k =>
      obtain ⟨a, vs, e1, e2, e3⟩ := lseq_rep (r := .v (.ob k)) Z h e
      exact ⟨a, vs, e1, .inl e2, e3⟩
    | tup ys =>
      cases e
      cases h with
      | tup h1 h2 => exact ⟨_, _, rfl, .inr h1, h2⟩
    | _ => cases e
  | l ys =>
    obtain ⟨a, vs, e1, e2, e3⟩ := lseq_rep (r := .l ys) Z h e
    exact ⟨a, vs, e1, .inl e2, e3⟩
  | b ys =>
    obtain ⟨a, vs, e1, e2, e3⟩ := lseq_rep (r := .b ys) Z h e
    exact ⟨a, vs, e1, .inl e2, e3⟩
  | _ => cases e
theorem Rd.sqL {K : PySem.W.Frag} {a : Addr} {vs : List V} (h : Rd H a (.lst vs)) : SqL K H a vs := .inl h
theorem flat_rep {r : R} {v : V} {d : D} (h : RR W H0 ι n H r v) (e : r.flat = some d) : Rep ι n H d v := by
  cases r with
  | v x => cases e; exact h
  | _ => cases e
theorem Ext.upd {a : Addr} {o : HO} (h : H a = none) : Ext ι n H ι n (upd H a o) :=
  ⟨Nat.le_refl _, fun _ _ => rfl, fun b u e _ => by rw [upd_ne (ne_of_none e h)]; exact e, fun h h1 h2 => absurd h2 (by omega), fun b o' u e => by rw [upd_ne (ne_of_none e h)]; exact e⟩
theorem RSt.upd {a : Addr} {o : HO} (Z : RSt W ι H S) (h : H a = none) : RSt W ι (upd H a o) S :=
  ⟨fun k ob e => (Z.at_ k ob e).mono (Nat.le_refl _) (fun _ _ => rfl) (fun b vs q => by rw [upd_ne (ne_of_none q h)]; exact q) fun u q => by rw [upd_ne (ne_of_none q h)]; exact q, Z.inj⟩
theorem RSt.ne_new {a : Addr} (Z : RSt W ι H S) (h : H a = none) : ∀ k, k < S.length → a ≠ ι k := fun k hk z => by
  have m := Z.sto hk
  rw [← z, h] at m
  exact m
def SimOp (W : Wd) (r : R2) (g : Store → R → R → Option R) : Prop := ∀ (H : Hp) (ι : Nat → Addr) (S : Store) (Ha Hb : Hp) (x y z : R) (vx vy : V),
  RSt W ι H S → RR W Ha ι S.length H x vx → RR W Hb ι S.length H y vy → g S x y = some z → ∀ Q : VK,
    (∀ v H', RSt W ι H' S → Ext ι S.length H ι S.length H' → RR W H ι S.length H' z v → Q v H') → r vx vy H Q
def eBin (g : Store → R → R → Option R) (fa fb : E) : E := fun ρ S => bnd (fa ρ S) fun x S1 => bnd (fb ρ S1) fun y S2 => (g S2 x y).map fun z => (z, S2)
theorem zag {ta tb : TE} {fa fb : E} {r : R2} {g : Store → R → R → Option R} (ha : SimE W ta fa) (hb : SimE W tb fb) (ho : SimOp W r g) : SimE W (tOp r ta tb) (eBin g fa fb) := by
  intro σ H ι ρ S H0 z S' Z N e Q hQ
  obtain ⟨x, S1, e1, e⟩ := zat e
  obtain ⟨y, S2, e2, e⟩ := zat e
  cases q : g S2 x y with
  | none => rw [q] at e; cases e
  | some z' =>
    rw [q] at e
    cases e
    refine ha σ H ι ρ S H0 x S1 Z N e1 _ fun v1 H1 ι1 Z1 X1 R1 => ?_
    refine hb σ H1 ι1 ρ S1 H0 y S' Z1 (N.ext X1 Z) e2 _ fun v2 H2 ι2 Z2 X2 R2 => ?_
    refine ho H2 ι2 S' H H1 x y z v1 v2 Z2 (R1.ext X2 Z1) R2 q _ fun v H3 Z3 X3 R3 => ?_
    have X12 := X1.trans X2 Z1
    exact hQ v H3 ι2 Z3 (X12.trans X3 Z2) (R3.older (fun a h => X12.dom Z2 h) _ _)
def SimU (W : Wd) (r : V → Hp → VK → Prop) (g : Store → R → Option R) : Prop := ∀ (H : Hp) (ι : Nat → Addr) (S : Store) (Ha : Hp) (x z : R) (vx : V),
  RSt W ι H S → RR W Ha ι S.length H x vx → g S x = some z → ∀ Q : VK,
    (∀ v H', RSt W ι H' S → Ext ι S.length H ι S.length H' → RR W H ι S.length H' z v → Q v H') → r vx H Q
def eUn (g : Store → R → Option R) (fa : E) : E := fun ρ S => bnd (fa ρ S) fun x S1 => (g S1 x).map fun z => (z, S1)
theorem sim_un {ta : TE} {fa : E} {r : V → Hp → VK → Prop} {g : Store → R → Option R} (ha : SimE W ta fa) (ho : SimU W r g) : SimE W (tUn r ta) (eUn g fa) := by
  intro σ H ι ρ S H0 z S' Z N e Q hQ
  obtain ⟨x, S1, e1, e⟩ := zat e
  cases q : g S1 x with
  | none => rw [q] at e; cases e
  | some z' =>
    rw [q] at e
    cases e
    refine ha σ H ι ρ S H0 x S' Z N e1 _ fun v1 H1 ι1 Z1 X1 R1 => ?_
    refine ho H1 ι1 S' H x z v1 Z1 R1 q _ fun v H3 Z3 X3 R3 => ?_
    exact hQ v H3 ι1 Z3 (X1.trans X3 Z1) (R3.older (fun a h => X1.dom Z1 h) _ _)
def eVar (i : Nat) : E := fun ρ S => match ρ[i]? with
  | some (.v d) => some (.v d, S)
  | some (.l xs) => some (.b xs, S)
  | some (.b xs) => some (.b xs, S)
  | some (.f xs) => some (.f xs, S)
  | some (.d k kvs) => some (.bd k kvs, S)
  | _ => none
theorem zab {i : Nat} : SimE W (tVar i) (eVar i) := by
  intro σ H ι ρ S H0 r S' Z N e Q hQ
  unfold eVar at e
  cases q : ρ[i]? with
  | none => rw [q] at e; cases e
  | some s =>
    rw [q] at e
    have hi : i < σ.length := by
      have := (List.getElem?_eq_some_iff.mp q).1
      rw [N.len] at this
      exact this
    have qs : σ[i]? = some σ[i] := by simp [hi]
    have ok := N.at_ i s _ q qs
    cases s with
    | no => cases e
    | v d =>
      cases e
      obtain ⟨v, ev, rv⟩ := ok
      exact ⟨v, by rw [qs, ev], hQ v H ι Z .refl rv⟩
    | l xs =>
      cases e
      obtain ⟨a, vs, ev, e1, e2, e3, e4⟩ := ok
      exact ⟨.ref a, by rw [qs, ev], hQ _ H ι Z .refl ⟨a, vs, rfl, e1, e2, e4⟩⟩
    | f xs =>
      cases e
      obtain ⟨a, vs, ev, e1, e2⟩ := ok
      exact ⟨.ref a, by rw [qs, ev], hQ _ H ι Z .refl ⟨a, vs, rfl, e1, e2⟩⟩
    | b xs =>
      cases e
      obtain ⟨a, vs, ev, e1, e2, e4⟩ := ok
      exact ⟨.ref a, by rw [qs, ev], hQ _ H ι Z .refl ⟨a, vs, rfl, e1, e2, e4⟩⟩
    | d k kvs =>
      cases e
      obtain ⟨a, ev, e1, e3, e4⟩ := ok
      exact ⟨.ref a, by rw [qs, ev], hQ _ H ι Z .refl ⟨a, rfl, e1, e4⟩⟩
def eLit (d : D) : E := fun _ S => some (.v d, S)
theorem zbo : SimE W (tC .non) (eLit .non) := by
  intro σ H ι ρ S H0 r S' Z N e Q hQ
  cases e; exact hQ _ H ι Z .refl .non
theorem za9 {b : Bool} : SimE W (tC (.bl b)) (eLit (.bl b)) := by
  intro σ H ι ρ S H0 r S' Z N e Q hQ
  cases e; exact hQ _ H ι Z .refl (.bl b)
theorem zad {i : Int} : SimE W (tC (.int i)) (eLit (.int i)) := by
  intro σ H ι ρ S H0 r S' Z N e Q hQ
  cases e; exact hQ _ H ι Z .refl (.int i)
theorem zaq {x : Str} : SimE W (tC (.str x)) (eLit (.str x)) := by
  intro σ H ι ρ S H0 r S' Z N e Q hQ
  cases e; exact hQ _ H ι Z .refl (.str x)
def R.bool : R → Option Bool
  | .v (.bl x) => some x
  | _ => none
theorem bool_eq {r : R} {b : Bool} (h : r.bool = some b) : r = .v (.bl b) := by
  unfold R.bool at h
  split at h
  · cases h; rfl
  · cases h
def eAnd (fa fb : E) : E := fun ρ S => bnd (fa ρ S) fun x S1 => match x.bool with
  | some true => fb ρ S1
  | some false => some (.v (.bl false), S1)
  | none => none
def eOr (fa fb : E) : E := fun ρ S => bnd (fa ρ S) fun x S1 => match x.bool with
  | some true => some (.v (.bl true), S1)
  | some false => fb ρ S1
  | none => none
def eIf (ft fa fb : E) : E := fun ρ S => bnd (ft ρ S) fun x S1 => match x.bool with
  | some true => fa ρ S1
  | some false => fb ρ S1
  | none => none
def gNot (_ : Store) (x : R) : Option R := x.bool.map fun b => .v (.bl !b)
def SimT (W : Wd) (t : TT) (f : E) : Prop := ∀ (σ : St) (H : Hp) (ι : Nat → Addr) (ρ : Env) (S : Store) (H0 : Hp) (b : Bool) (S' : Store),
  RSt W ι H S → REnv W H0 ι S.length H ρ σ → f ρ S = some (.v (.bl b), S') → ∀ Q : Bool → Hp → Prop,
    (∀ H' ι', RSt W ι' H' S' → Ext ι S.length H ι' S'.length H' → Q b H') → t σ H Q
theorem zav {t : TE} {f : E} (h : SimE W t f) : SimT W (tB t) f := by
  intro σ H ι ρ S H0 b S' Z N e Q hQ
  refine h σ H ι ρ S H0 _ S' Z N e _ fun v H' ι' Z' X' R' => ?_
  cases R'
  exact ⟨b, rfl, hQ H' ι' Z' X'⟩
theorem zan {t : TE} {f : E} (h : SimE W t f) : SimT W (tTest t) f := zav h
theorem SimE.then {t : TE} {f : E} (h : SimE W t f) {r : R} {S1 : Store} (Z : RSt W ι H S) (N : REnv W H0 ι S.length H ρ σ) (e : f ρ S = some (r, S1)) {Q : VK}
    (hQ : ∀ v H' ι', RSt W ι' H' S1 → Ext ι S.length H ι' S1.length H' → REnv W H0 ι' S1.length H' ρ σ → RR W H ι' S1.length H' r v → Q v H') : t σ H Q :=
  h σ H ι ρ S H0 r S1 Z N e Q fun v H' ι' Z' X' R' => hQ v H' ι' Z' X' (N.ext X' Z) R'
theorem SimT.then {t : TT} {f : E} (h : SimT W t f) {b : Bool} {S1 : Store} (Z : RSt W ι H S) (N : REnv W H0 ι S.length H ρ σ) (e : f ρ S = some (.v (.bl b), S1)) {Q : Bool → Hp → Prop}
    (hQ : ∀ H' ι', RSt W ι' H' S1 → Ext ι S.length H ι' S1.length H' → REnv W H0 ι' S1.length H' ρ σ → Q b H') : t σ H Q :=
  h σ H ι ρ S H0 b S1 Z N e Q fun H' ι' Z' X' => hQ H' ι' Z' X' (N.ext X' Z)
theorem RR.back2 (X : Ext ι S.length H ι' S'.length H') (Z : RSt W ι' H' S') {ι2 : Nat → Addr} {H3 : Hp} {r : R} {v : V} (h : RR W H' ι2 n H3 r v) : RR W H ι2 n H3 r v := h.older (fun _ q => X.dom Z q) _ _
theorem zby {ta tb : TE} {fa fb : E} (ha : SimE W ta fa) (hb : SimE W tb fb) : SimE W (tAndV ta tb) (eAnd fa fb) := by
  intro σ H ι ρ S H0 z S' Z N e Q hQ
  obtain ⟨x, S1, e1, e⟩ := zat e
  cases q : x.bool with
  | none => rw [q] at e; cases e
  | some b =>
    rw [q] at e
    have ex := bool_eq q
    subst ex
    refine ha.then Z N e1 fun v1 H1 ι1 Z1 X1 N1 R1 => ?_
    cases R1
    refine ⟨b, rfl, ?_⟩
    cases b with
    | true =>
      refine hb.then Z1 N1 e fun v2 H2 ι2 Z2 X2 N2 R2 => hQ v2 H2 ι2 Z2 (X1.trans X2 Z1) (R2.back2 X1 Z1)
    | false =>
      cases e
      exact hQ _ H1 ι1 Z1 X1 (.bl false)
theorem simT_and {ta tb : TT} {fa fb : E} (ha : SimT W ta fa) (hb : SimT W tb fb) : SimT W (tAnd ta tb) (eAnd fa fb) := by
  intro σ H ι ρ S H0 c S' Z N e Q hQ
  obtain ⟨x, S1, e1, e⟩ := zat e
  cases q : x.bool with
  | none => rw [q] at e; cases e
  | some b =>
    rw [q] at e
    have ex := bool_eq q
    subst ex
    refine ha.then Z N e1 fun H1 ι1 Z1 X1 N1 => ?_
    cases b with
    | true => exact hb.then Z1 N1 e fun H2 ι2 Z2 X2 N2 => hQ H2 ι2 Z2 (X1.trans X2 Z1)
    | false =>
      cases e
      exact hQ H1 ι1 Z1 X1
theorem zbk {ta tb : TT} {fa fb : E} (ha : SimT W ta fa) (hb : SimT W tb fb) : SimT W (tOr ta tb) (eOr fa fb) := by
  intro σ H ι ρ S H0 c S' Z N e Q hQ
  obtain ⟨x, S1, e1, e⟩ := zat e
  cases q : x.bool with
  | none => rw [q] at e; cases e
  | some b =>
    rw [q] at e
    have ex := bool_eq q
    subst ex
    refine ha.then Z N e1 fun H1 ι1 Z1 X1 N1 => ?_
    cases b with
    | false => exact hb.then Z1 N1 e fun H2 ι2 Z2 X2 N2 => hQ H2 ι2 Z2 (X1.trans X2 Z1)
    | true =>
      cases e
      exact hQ H1 ι1 Z1 X1
theorem zaZ {ta : TT} {fa : E} (ha : SimT W ta fa) : SimT W (tNot ta) (eUn gNot fa) := by
  intro σ H ι ρ S H0 c S' Z N e Q hQ
  obtain ⟨x, S1, e1, e⟩ := zat e
  unfold gNot at e
  cases q : x.bool with
  | none => rw [q] at e; cases e
  | some b =>
    rw [q] at e
    cases e
    have ex := bool_eq q
    subst ex
    exact ha.then Z N e1 fun H1 ι1 Z1 X1 N1 => hQ H1 ι1 Z1 X1
theorem sim_not {ta : TE} {fa : E} (ha : SimE W ta fa) : SimE W (tNotV ta) (eUn gNot fa) := by
  intro σ H ι ρ S H0 c S' Z N e Q hQ
  obtain ⟨x, S1, e1, e⟩ := zat e
  unfold gNot at e
  cases q : x.bool with
  | none => rw [q] at e; cases e
  | some b =>
    rw [q] at e
    cases e
    have ex := bool_eq q
    subst ex
    refine ha.then Z N e1 fun v1 H1 ι1 Z1 X1 N1 R1 => ?_
    cases R1
    exact ⟨b, rfl, hQ _ H1 ι1 Z1 X1 (.bl _)⟩
theorem sim_if {tt : TT} {ta tb : TE} {ft fa fb : E} (ht : SimT W tt ft) (ha : SimE W ta fa) (hb : SimE W tb fb) : SimE W (tIf tt ta tb) (eIf ft fa fb) := by
  intro σ H ι ρ S H0 z S' Z N e Q hQ
  obtain ⟨x, S1, e1, e⟩ := zat e
  cases q : x.bool with
  | none => rw [q] at e; cases e
  | some b =>
    rw [q] at e
    have ex := bool_eq q
    subst ex
    refine ht.then Z N e1 fun H1 ι1 Z1 X1 N1 => ?_
    cases b with
    | true => exact ha.then Z1 N1 e fun v2 H2 ι2 Z2 X2 N2 R2 => hQ v2 H2 ι2 Z2 (X1.trans X2 Z1) (R2.back2 X1 Z1)
    | false => exact hb.then Z1 N1 e fun v2 H2 ι2 Z2 X2 N2 R2 => hQ v2 H2 ι2 Z2 (X1.trans X2 Z1) (R2.back2 X1 Z1)
end
end Ev
namespace Ev
open PySem L2
def cap : Nat := 16777216
theorem cap_eq : cap = sizeLine := by rw [sizeLine_eq]; rfl
mutual
def toPD : D → PyData
  | .non => .none
  | .bl b => .bool b
  | .int i => .int i
  | .str s => .str s
  | .tup xs => .tuple (toPDs xs)
  | .ob _ => .none
def toPDs : List D → List PyData
  | [] => []
  | x :: xs => toPD x :: toPDs xs
end
mutual
def okN : Nat → D → Bool
  | _, .non => true
  | _, .bl _ => true
  | _, .int _ => true
  | _, .str s => PyData.strOk s
  | 0, .tup _ => false
  | n + 1, .tup xs => okNs n xs
  | _, .ob _ => false
def okNs : Nat → List D → Bool
  | _, [] => true
  | n, x :: xs => okN n x && okNs n xs
end
mutual
theorem okN_lay : ∀ (n : Nat) (d : D), okN n d = true → (toPD d).canLay0 = true ∧ (toPD d).depth ≤ n
  | n, .non, _ => ⟨by simp [toPD, PyData.canLay0], by simp [toPD, PyData.depth]⟩
  | n, .bl _, _ => ⟨by simp [toPD, PyData.canLay0], by simp [toPD, PyData.depth]⟩
  | n, .int _, _ => ⟨by simp [toPD, PyData.canLay0], by simp [toPD, PyData.depth]⟩
  | n, .str s, h => ⟨by simpa [toPD, PyData.canLay0, okN] using h, by simp [toPD, PyData.depth]⟩
  | 0, .tup xs, h => by simp [okN] at h
  | n + 1, .tup xs, h => by
    have q := okNs_lay n xs (by simpa [okN] using h)
    exact ⟨by simpa [toPD, PyData.canLay0] using q.1, by simpa [toPD, PyData.depth] using q.2⟩
  | n, .ob _, h => by cases n <;> simp [okN] at h
theorem okNs_lay : ∀ (n : Nat) (d : List D), okNs n d = true → PyData.canLayAll0 (toPDs d) = true ∧ PyData.depthAll (toPDs d) ≤ n
  | n, [], _ => ⟨by simp [toPDs, PyData.canLayAll0], by simp [toPDs, PyData.depthAll]⟩
  | n, x :: xs, h => by
    simp only [okNs, Bool.and_eq_true] at h
    have q1 := okN_lay n x h.1
    have q2 := okNs_lay n xs h.2
    refine ⟨by simp [toPDs, PyData.canLayAll0, q1.1, q2.1], ?_⟩
    simp only [toPDs, PyData.depthAll]
    exact Nat.max_le.mpr ⟨q1.2, q2.2⟩
end
theorem shaped_of {d : D} (h : okN 60 d = true) : SeqAt.shaped (toPD d) = true := by
  have q := okN_lay 60 d h
  unfold SeqAt.shaped
  simp only [q.1, Bool.true_and, decide_eq_true_eq]
  omega
theorem shaped_list {d : List D} (h : okNs 60 d = true) : SeqAt.shaped (.list (toPDs d)) = true := by
  have q := okNs_lay 60 d h
  unfold SeqAt.shaped
  have e1 : (PyData.list (toPDs d)).canLay0 = true := by simpa [PyData.canLay0] using q.1
  have e2 : (PyData.list (toPDs d)).depth ≤ 64 := by simp only [PyData.depth]; omega
  simp only [e1, Bool.true_and, decide_eq_true_eq]
  exact e2
section
variable {W : Wd} {ι : Nat → Addr} {n : Nat} {H H0 : Hp} {S : Store} {K : PySem.W.Frag}
mutual
theorem Rep.dp : ∀ (m : Nat) (d : D) (v : V), okN m d = true → Rep ι n H d v → Dp K H v (toPD d)
  | m, .non, _, _, h => by cases h; rw [toPD]; exact .non
  | m, .bl b, _, _, h => by cases h; rw [toPD]; exact .bl b
  | m, .int i, _, _, h => by cases h; rw [toPD]; exact .int i
  | m, .str s, _, _, h => by cases h; rw [toPD]; exact .str s
  | 0, .tup xs, _, o, h => by simp [okN] at o
  | m + 1, .tup xs, _, o, h => by
    cases h with
    | tup h1 h2 =>
      rw [toPD]
      exact .tup (.of h1) (Reps.dp m xs _ (by simpa [okN] using o) h2)
  | m, .ob k, _, o, h => by cases m <;> simp [okN] at o
theorem Reps.dp : ∀ (m : Nat) (d : List D) (v : List V), okNs m d = true → Reps ι n H d v → DpAll K H v (toPDs d)
  | m, [], _, _, h => by cases h; rw [toPDs]; exact .nil
  | m, x :: xs, _, o, h => by
    simp only [okNs, Bool.and_eq_true] at o
    cases h with
    | cons h1 h2 =>
      rw [toPDs]
      exact .cons (Rep.dp m x _ o.1 h1) (Reps.dp m xs _ o.2 h2)
end
def R.pd (S : Store) (x : R) : Option PyData :=
  match x.lseq S with
  | some xs => if okNs 60 xs = true then some (.list (toPDs xs)) else none
  | none => (match x with
    | .v y => if okN 60 y = true then some (toPD y) else none
    | _ => none)
theorem pd_dp {x : R} {v : V} {p : PyData} (Z : RSt W ι H S) (h : RR W H0 ι S.length H x v) (e : x.pd S = some p) : Dp K H v p ∧ SeqAt.shaped p = true := by
  unfold R.pd at e
  cases q : x.lseq S with
  | some xs =>
    rw [q] at e
    simp only at e
    by_cases o : okNs 60 xs = true
    · rw [if_pos o] at e
      cases e
      obtain ⟨a, vs, rfl, e1, e2⟩ := lseq_rep Z h q
      exact ⟨.lst (.inl e1) (Reps.dp 60 xs vs o e2), shaped_list o⟩
    · rw [if_neg o] at e; cases e
  | none =>
    rw [q] at e
    cases x with
    | v y =>
      simp only at e
      by_cases o : okN 60 y = true
      · rw [if_pos o] at e
        cases e
        exact ⟨Rep.dp 60 y v o h, shaped_of o⟩
      · rw [if_neg o] at e; cases e
    | _ => cases e
theorem new_tup {p : Addr} {xs : List D} {vs : List V} (Z : RSt W ι H S) (hp : H p = none) (r : Reps ι S.length H xs vs) {Q : VK}
    (hQ : ∀ v H', RSt W ι H' S → Ext ι S.length H ι S.length H' → RR W H ι S.length H' (.v (.tup xs)) v → Q v H') : Q (.ref p) (upd H p (.tup vs)) := by
  have X : Ext ι S.length H ι S.length (upd H p (.tup vs)) := Ext.upd hp
  exact hQ _ _ (Z.upd hp) X (.tup upd_same (r.ext X Z))
theorem new_lst {p : Addr} {xs : List D} {vs : List V} (Z : RSt W ι H S) (hp : H p = none) (r : Reps ι S.length H xs vs) {Q : VK}
    (hQ : ∀ v H', RSt W ι H' S → Ext ι S.length H ι S.length H' → RR W H ι S.length H' (.l xs) v → Q v H') : Q (.ref p) (upd H p (.lst vs)) := by
  have X : Ext ι S.length H ι S.length (upd H p (.lst vs)) := Ext.upd hp
  exact hQ _ _ (Z.upd hp) X ⟨p, vs, rfl, upd_same, r.ext X Z, hp, Z.ne_new hp⟩
def R.cat (S : Store) (x y : R) : Option R := match x.tlst S, y.tlst S with
  | some us, some ws => if us.length + ws.length ≤ cap then some (.l (us ++ ws)) else none
  | _, _ => none
def gAdd (S : Store) (x y : R) : Option R := match x, y with
  | .v (.int i), .v (.int j) => some (.v (.int (i + j)))
  | .v (.str a), .v (.str b) => if a.length + b.length ≤ cap then some (.v (.str (a ++ b))) else none
  | .v (.tup a), .v (.tup b) => if a.length + b.length ≤ cap then some (.v (.tup (a ++ b))) else none
  | x, y => x.cat S y
def rStrAdd : R2 := fun x y H Q => ∃ i j, x = .str i ∧ y = .str j ∧ i.length + j.length ≤ sizeLine ∧ Q (.str (i ++ j)) H
def rAddA (K : PySem.W.Frag) : R2 := fun x y H Q => ((rI0 fun i j => .int (i + j)) x y H Q ∨ rStrAdd x y H Q) ∨ (rCatA K x y H Q ∨ rCat x y H Q)
theorem zaA {X : Cx} : OpR X (binaryOp .Add) (rAddA X.K) := OpR.or (OpR.or op_add op_add_str) (OpR.or op_catA op_cat)
theorem Reps.nil_iff {ds : List D} {vs : List V} (h : Reps ι n H ds vs) : vs = [] ↔ ds = [] := by
  cases h <;> simp
theorem cat_sim {Ha Hb : Hp} {x y z : R} {vx vy : V} (Z : RSt W ι H S) (hx : RR W Ha ι S.length H x vx) (hy : RR W Hb ι S.length H y vy) (e : x.cat S y = some z) {Q : VK}
    (hQ : ∀ v H', RSt W ι H' S → Ext ι S.length H ι S.length H' → RR W H ι S.length H' z v → Q v H') : rCat vx vy H Q := by
  unfold R.cat at e
  split at e
  · rename_i a b q1 q2
    by_cases hl : a.length + b.length ≤ cap
    · rw [if_pos hl] at e
      cases e
      obtain ⟨p1, v1, rfl, e1, r1⟩ := tlst_rep Z hx q1
      obtain ⟨p2, v2, rfl, e2, r2⟩ := tlst_rep Z hy q2
      refine ⟨p1, p2, v1, v2, rfl, rfl, e1, e2, by rw [← r1.length, ← r2.length, ← cap_eq]; exact hl, fun p hp => ?_⟩
      exact new_lst Z hp (r1.append r2) hQ
    · rw [if_neg hl] at e; cases e
  · cases e
theorem zaz : SimOp W (rAddA K) gAdd := by
  intro H ι S Ha Hb x y z vx vy Z hx hy e Q hQ
  unfold gAdd at e
  split at e
  · cases e
    cases hx; cases hy
    exact .inl (.inl ⟨_, _, rfl, rfl, hQ _ H Z .refl (.int _)⟩)
  · rename_i a b
    by_cases hl : a.length + b.length ≤ cap
    · rw [if_pos hl] at e
      cases e
      cases hx; cases hy
      exact .inl (.inr ⟨_, _, rfl, rfl, by rw [← cap_eq]; exact hl, hQ _ H Z .refl (.str _)⟩)
    · rw [if_neg hl] at e; cases e
  · rename_i a b
    by_cases hl : a.length + b.length ≤ cap
    · rw [if_pos hl] at e
      cases e
      cases hx with
      | tup e1 r1 =>
        cases hy with
        | tup e2 r2 =>
          refine .inr (.inl ⟨_, _, _, _, rfl, rfl, .of e1, .of e2, by rw [← r1.length, ← r2.length, ← cap_eq]; exact hl, fun h => ?_, fun h1 h2 => ?_, fun h1 h2 p hp => ?_⟩)
          · have : a = [] := r1.nil_iff.mp h
            subst this
            exact hQ _ H Z .refl (.tup e2 r2)
          · have : b = [] := r2.nil_iff.mp h2
            subst this
            rw [List.append_nil] at hQ
            exact hQ _ H Z .refl (.tup e1 r1)
          · exact new_tup Z hp (r1.append r2) hQ
    · rw [if_neg hl] at e; cases e
  · exact .inr (.inr (cat_sim Z hx hy e hQ))
def R.int : R → Option Int
  | .v (.int x) => some x
  | _ => none
theorem int_eq {r : R} {i : Int} (h : r.int = some i) : r = .v (.int i) := by
  unfold R.int at h
  split at h
  · cases h; rfl
  · cases h
def gI (c : Int → Int → Bool) (f : Int → Int → D) (_ : Store) (x y : R) : Option R := match x.int, y.int with
  | some i, some j => if c i j = true then some (.v (f i j)) else none
  | _, _ => none
theorem gI_eq {c : Int → Int → Bool} {f : Int → Int → D} {x y z : R} (h : gI c f S x y = some z) : ∃ i j, x = .v (.int i) ∧ y = .v (.int j) ∧ c i j = true ∧ z = .v (f i j) := by
  unfold gI at h
  split at h
  · rename_i i j q1 q2
    by_cases hc : c i j = true
    · rw [if_pos hc] at h
      cases h
      exact ⟨i, j, int_eq q1, int_eq q2, hc, rfl⟩
    · rw [if_neg hc] at h; cases h
  · cases h
theorem sim_I {c : Int → Int → Bool} {f : Int → Int → D} {C : Int → Int → Prop} {g : Int → Int → V} (hc : ∀ i j, c i j = true → C i j) (hf : ∀ ι n H i j, Rep ι n H (f i j) (g i j)) : SimOp W (rI C g) (gI c f) := by
  intro H ι S Ha Hb x y z vx vy Z hx hy e Q hQ
  obtain ⟨i, j, rfl, rfl, h, rfl⟩ := gI_eq e
  cases hx; cases hy
  exact ⟨i, j, rfl, rfl, hc i j h, hQ _ H Z .refl (hf _ _ _ _ _)⟩
theorem sim_I0 {f : Int → Int → D} {g : Int → Int → V} (hf : ∀ ι n H i j, Rep ι n H (f i j) (g i j)) : SimOp W (rI0 g) (gI (fun _ _ => true) f) := by
  intro H ι S Ha Hb x y z vx vy Z hx hy e Q hQ
  obtain ⟨i, j, rfl, rfl, h, rfl⟩ := gI_eq e
  cases hx; cases hy
  exact ⟨i, j, rfl, rfl, hQ _ H Z .refl (hf _ _ _ _ _)⟩
def gSub := gI (fun _ _ => true) fun i j => .int (i - j)
theorem sim_sub : SimOp W (rI0 fun i j => .int (i - j)) gSub := sim_I0 fun _ _ _ _ _ => .int _
def gFdiv := gI (fun _ j => decide (0 < j) && decide (j < 1073741824)) fun i j => .int (i / j)
theorem sim_fdiv : SimOp W (rI CDiv fun i j => .int (i / j)) gFdiv := sim_I (fun i j h => by simpa [CDiv] using h) fun _ _ _ _ _ => .int _
def gMod := gI (fun _ j => decide (0 < j)) fun i j => .int (i % j)
theorem sim_mod : SimOp W (rI (fun _ j => 0 < j) fun i j => .int (i % j)) gMod := sim_I (fun i j h => by simpa using h) fun _ _ _ _ _ => .int _
def gPow := gI (fun i j => decide (0 ≤ j) && decide (j ≤ 1000) && decide (i.natAbs < 1000)) fun i j => .int (i ^ j.toNat)
theorem sim_pow : SimOp W (rI CPow fun i j => .int (i ^ j.toNat)) gPow := sim_I (fun i j h => by
  simp only [Bool.and_eq_true, decide_eq_true_eq] at h
  exact ⟨h.1.1, by omega, Nat.lt_trans h.2 (by decide)⟩) fun _ _ _ _ _ => .int _
def gLt := gI (fun _ _ => true) fun i j => .bl (decide (i < j))
theorem sim_lt : SimOp W (rI0 fun i j => .bl (decide (i < j))) gLt := sim_I0 fun _ _ _ _ _ => .bl _
def gLe := gI (fun _ _ => true) fun i j => .bl (decide (i ≤ j))
theorem sim_le : SimOp W (rI0 fun i j => .bl (decide (i ≤ j))) gLe := sim_I0 fun _ _ _ _ _ => .bl _
def gGt := gI (fun _ _ => true) fun i j => .bl (decide (j < i))
theorem sim_gt : SimOp W (rI0 fun i j => .bl (decide (j < i))) gGt := sim_I0 fun _ _ _ _ _ => .bl _
def gGe := gI (fun _ _ => true) fun i j => .bl (decide (j ≤ i))
theorem sim_ge : SimOp W (rI0 fun i j => .bl (decide (j ≤ i))) gGe := sim_I0 fun _ _ _ _ _ => .bl _
def small64 (i : Int) : Bool := decide (-(18446744073709551616) < i) && decide (i < 18446744073709551616)
def gMul (S : Store) (x y : R) : Option R := match x, y with
  | .v (.int i), .v (.int j) => if small64 i || small64 j then some (.v (.int (i * j))) else none
  | .v (.tup a), .v (.int j) => if !a.isEmpty && decide (2 ≤ j) && decide (j ≤ 1000) && decide (a.length ≤ 1000) then some (.v (.tup (List.replicate j.toNat a).flatten)) else none
  | x, .v (.int j) => (match x.tlst S with
    | some a => if decide (-(9223372036854775808) ≤ j) && decide (j < 9223372036854775808) && decide (a.length * j.toNat ≤ cap) then some (.l (List.replicate j.toNat a).flatten) else none
    | none => none)
  | _, _ => none
def rMulA (K : PySem.W.Frag) : R2 := fun x y H Q => (rI CMul fun i j => .int (i * j)) x y H Q ∨ (rRepT K x y H Q ∨ rRep x y H Q)
theorem op_mulA {X : Cx} : OpR X (binaryOp .Mult) (rMulA X.K) := OpR.or op_mul (OpR.or op_repT op_rep)
theorem Reps.flatRep {ds : List D} {vs : List V} (h : Reps ι n H ds vs) : ∀ m : Nat, Reps ι n H (List.replicate m ds).flatten (List.replicate m vs).flatten
  | 0 => by simp; exact .nil
  | m + 1 => by
    rw [List.replicate_succ, List.replicate_succ, List.flatten_cons, List.flatten_cons]
    exact h.append (Reps.flatRep h m)
theorem mulL_sim {Ha : Hp} {x z : R} {vx : V} {j : Int} (Z : RSt W ι H S) (hx : RR W Ha ι S.length H x vx)
    (e : (match x.tlst S with
    | some a => if decide (-(9223372036854775808) ≤ j) && decide (j < 9223372036854775808) && decide (a.length * j.toNat ≤ cap) then some (.l (List.replicate j.toNat a).flatten) else none
    | none => none) = some z) {Q : VK}
    (hQ : ∀ v H', RSt W ι H' S → Ext ι S.length H ι S.length H' → RR W H ι S.length H' z v → Q v H') : rRep vx (.int j) H Q := by
  split at e
  · rename_i a q1
    split at e
    · rename_i c
      cases e
      simp only [Bool.and_eq_true, decide_eq_true_eq] at c
      obtain ⟨p1, v1, rfl, e1, r1⟩ := tlst_rep Z hx q1
      refine ⟨p1, j, v1, rfl, rfl, e1, by omega, by omega, by rw [← r1.length, ← cap_eq]; exact c.2, fun p hp => ?_⟩
      exact new_lst Z hp (r1.flatRep _) hQ
    · cases e
  · cases e
theorem small64_ok {i : Int} (h : small64 i = true) : -(2 ^ 64) < i ∧ i < 2 ^ 64 := by
  simp only [small64, Bool.and_eq_true, decide_eq_true_eq] at h
  exact ⟨by omega, by omega⟩
theorem sim_mul : SimOp W (rMulA K) gMul := by
  intro H ι S Ha Hb x y z vx vy Z hx hy e Q hQ
  unfold gMul at e
  split at e
  · split at e
    · rename_i i j c
      cases e
      cases hx; cases hy
      refine .inl ⟨_, _, rfl, rfl, ?_, hQ _ H Z .refl (.int _)⟩
      rcases Bool.or_eq_true_iff.mp c with c | c
      · exact .inl (small64_ok c)
      · exact .inr (small64_ok c)
    · cases e
  · split at e
    · rename_i a j c
      cases e
      simp only [Bool.and_eq_true, decide_eq_true_eq] at c
      obtain ⟨⟨⟨c1, c2⟩, c3⟩, c4⟩ := c
      cases hy
      cases hx with
      | tup e1 r1 =>
        refine .inr (.inl ⟨_, _, _, rfl, rfl, .of e1, fun q => ?_, c2, c3, by rw [← r1.length]; exact c4, fun p hp => new_tup Z hp (r1.flatRep _) hQ⟩)
        have : a = [] := r1.nil_iff.mp q
        subst this
        simp at c1
    · cases e
  · rename_i x j _ _
    cases hy
    exact .inr (.inr (mulL_sim Z hx e hQ))
  · cases e
def gNeg (_ : Store) (x : R) : Option R := x.int.map fun i => .v (.int (-i))
theorem sim_neg : SimU W (rU fun i => .int (-i)) gNeg := by
  intro H ι S Ha x z vx Z hx e Q hQ
  unfold gNeg at e
  cases q : x.int with
  | none => rw [q] at e; cases e
  | some i =>
    rw [q] at e
    cases e
    have := int_eq q
    subst this
    cases hx
    exact ⟨i, rfl, hQ _ H Z .refl (.int _)⟩
def gEq (S : Store) (x y : R) : Option R := match x.pd S, y.pd S with
  | some a, some b => some (.v (.bl (PyData.eqv a b)))
  | _, _ => none
def gNe (S : Store) (x y : R) : Option R := match x.pd S, y.pd S with
  | some a, some b => some (.v (.bl (!PyData.eqv a b)))
  | _, _ => none
theorem za5 : SimOp W (rEqD K) gEq := by
  intro H ι S Ha Hb x y z vx vy Z hx hy e Q hQ
  unfold gEq at e
  split at e
  · rename_i a b q1 q2
    cases e
    have d1 := pd_dp (K := K) Z hx q1
    have d2 := pd_dp (K := K) Z hy q2
    exact ⟨a, b, d1.1, d2.1, d1.2, d2.2, hQ _ H Z .refl (.bl _)⟩
  · cases e
theorem sim_ne : SimOp W (rNeD K) gNe := by
  intro H ι S Ha Hb x y z vx vy Z hx hy e Q hQ
  unfold gNe at e
  split at e
  · rename_i a b q1 q2
    cases e
    have d1 := pd_dp (K := K) Z hx q1
    have d2 := pd_dp (K := K) Z hy q2
    exact ⟨a, b, d1.1, d2.1, d1.2, d2.2, hQ _ H Z .refl (.bl _)⟩
  · cases e
def R.isNone : R → Bool
  | .v .non => true
  | _ => false
theorem isNone_rep {x : R} {v : V} (h : RR W H0 ι n H x v) : decide (v = .non) = x.isNone := by
  cases x with
  | v d =>
    cases h <;> simp [R.isNone]
  | l xs => obtain ⟨a, vs, rfl, _⟩ := h; simp [R.isNone]
  | b xs => obtain ⟨a, vs, rfl, _⟩ := h; simp [R.isNone]
  | f xs => obtain ⟨a, vs, rfl, _⟩ := h; simp [R.isNone]
  | c xs => obtain ⟨a, vs, rfl, _⟩ := h; simp [R.isNone]
  | d k kvs => obtain ⟨a, rfl, _⟩ := h; simp [R.isNone]
  | bd k kvs => obtain ⟨a, rfl, _⟩ := h; simp [R.isNone]
  | pr r q => obtain ⟨a, x, y, rfl, _⟩ := h; simp [R.isNone]
def gIsN (_ : Store) (x : R) : Option R := some (.v (.bl x.isNone))
def gNotN (_ : Store) (x : R) : Option R := some (.v (.bl (!x.isNone)))
theorem sim_isN {ta : TE} {fa : E} (ha : SimE W ta fa) : SimE W (tIsN ta) (eUn gIsN fa) := by
  intro σ H ι ρ S H0 c S' Z N e Q hQ
  obtain ⟨x, S1, e1, e⟩ := zat e
  cases e
  refine ha.then Z N e1 fun v1 H1 ι1 Z1 X1 N1 R1 => ?_
  rw [isNone_rep R1]
  exact hQ _ H1 ι1 Z1 X1 (.bl _)
theorem sim_notN {ta : TE} {fa : E} (ha : SimE W ta fa) : SimE W (tNotN ta) (eUn gNotN fa) := by
  intro σ H ι ρ S H0 c S' Z N e Q hQ
  obtain ⟨x, S1, e1, e⟩ := zat e
  cases e
  refine ha.then Z N e1 fun v1 H1 ι1 Z1 X1 N1 R1 => ?_
  rw [isNone_rep R1]
  exact hQ _ H1 ι1 Z1 X1 (.bl _)
end
end Ev
namespace Ev
open PySem L2
section
variable {P : Program} {w : World}
def NestIs (P : Program) (w : World) (h : Heap) (kss : List (List Int)) (a : Addr) : Prop :=
  ∃ o items n, h.get? a = some o ∧ o.cls = .type "tuple" ∧ o.data = .seq items n ∧ All2 (fun (is : List Int) (v : Value) => ∃ b, v = .ref b ∧ IsTupleKey (intKind P w) h is b) kss items.toList
theorem NestIs.ty {s : Shared} {kss : List (List Int)} {a : Addr} (x : NestIs P w s.heap kss a) : s.TypeIs (.ref a) "tuple" :=
  let ⟨o, _, _, ho, hc, _⟩ := x
  ⟨o, ho, hc⟩
theorem all2_inj {h : Heap} : ∀ {x y : List (List Int)} {vs : List Value}, All2 (fun (is : List Int) (v : Value) => ∃ b, v = .ref b ∧ IsTupleKey (intKind P w) h is b) x vs →
    All2 (fun (is : List Int) (v : Value) => ∃ b, v = .ref b ∧ IsTupleKey (intKind P w) h is b) y vs → x = y
  | _, _, _, .nil, .nil => rfl
  | _, _, _, .cons ⟨b, e, q⟩ t, .cons ⟨c, e', q'⟩ t' => by
    rw [e] at e'
    cases e'
    rw [q.inj q', all2_inj t t']
theorem NestIs.inj {h : Heap} {a : Addr} {x y : List (List Int)} (hx : NestIs P w h x a) (hy : NestIs P w h y a) : x = y := by
  obtain ⟨o, items, n, ho, _, hd, hi⟩ := hx
  obtain ⟨o', items', n', ho', _, hd', hi'⟩ := hy
  rw [ho] at ho'
  cases ho'
  rw [hd] at hd'
  cases hd'
  exact all2_inj hi hi'
theorem NestIs.keeps {h h' : Heap} {kss : List (List Int)} {a d : Addr} {o : Obj} {es ep} (x : NestIs P w h kss a) (ho : h.get? d = some o) (hd : o.data = .dict es ep) (hs : Heap.SameBut d h h') : NestIs P w h' kss a := by
  obtain ⟨oa, items, n, ha, hc, hda, hi⟩ := x
  have hne : a ≠ d := fun z => by
    rw [z, ho] at ha
    cases ha
    rw [hd] at hda
    cases hda
  exact ⟨oa, items, n, (hs.2 a hne).trans ha, hc, hda, hi.mono fun is v ⟨b, e, q⟩ => ⟨b, e, q.keeps ho hd hs⟩⟩
def intsD (is : List Int) : PyData := .tuple (is.map PyData.int)
theorem items_ints {is : List Int} {vs : List Value} (q : ItemsAre (intKind P w) is vs) {h : Heap} : ReadsAll h vs (is.map PyData.int) [] := by
  induction q with
  | nil => exact .nil
  | cons h1 _ ih =>
    obtain ⟨t, rfl⟩ := Value.isInt_shape h1
    exact ReadsAll.cons (as := []) (.int _ t) ih
theorem key_reads {h : Heap} {is : List Int} {b : Addr} (q : IsTupleKey (intKind P w) h is b) : Reads h (.ref b) (intsD is) [] := by
  obtain ⟨o, items, n, ho, hc, hd, hi⟩ := q
  exact .tuple ho hc hd (items_ints hi)
theorem nest_reads {h : Heap} {kss : List (List Int)} {a : Addr} (q : NestIs P w h kss a) : Reads h (.ref a) (.tuple (kss.map intsD)) [] := by
  obtain ⟨o, items, n, ho, hc, hd, hi⟩ := q
  refine .tuple ho hc hd ?_
  have all : ∀ {ks : List (List Int)} {vs : List Value}, All2 (fun (is : List Int) (v : Value) => ∃ b, v = .ref b ∧ IsTupleKey (intKind P w) h is b) ks vs → ReadsAll h vs (ks.map intsD) [] := by
    intro ks vs q
    induction q with
    | nil => exact .nil
    | cons h1 _ ih =>
      obtain ⟨b, rfl, q⟩ := h1
      exact ReadsAll.cons (as := []) (key_reads q) ih
  exact all hi
theorem eqv_ints : ∀ x y : List Int, PyData.eqvAll (x.map PyData.int) (y.map PyData.int) = decide (x = y)
  | [], [] => rfl
  | [], _ :: _ => rfl
  | _ :: _, [] => rfl
  | x :: xs, y :: ys => by
    simp only [List.map_cons, PyData.eqvAll, PyData.eqv, eqv_ints xs ys]
    by_cases h1 : x = y <;> by_cases h2 : xs = ys <;> simp [h1, h2]
theorem eqv_nest : ∀ x y : List (List Int), PyData.eqvAll (x.map intsD) (y.map intsD) = decide (x = y)
  | [], [] => rfl
  | [], _ :: _ => rfl
  | _ :: _, [] => rfl
  | x :: xs, y :: ys => by
    have e0 : PyData.eqv (intsD x) (intsD y) = decide (x = y) := by simp only [intsD, PyData.eqv, eqv_ints x y]
    simp only [List.map_cons, PyData.eqvAll, e0, eqv_nest xs ys]
    by_cases h1 : x = y <;> by_cases h2 : xs = ys <;> simp [h1, h2]
theorem lay_ints : ∀ x : List Int, PyData.canLayAll0 (x.map PyData.int) = true ∧ PyData.depthAll (x.map PyData.int) = 0
  | [] => ⟨by simp [PyData.canLayAll0], by simp [PyData.depthAll]⟩
  | x :: xs => by
    have q := lay_ints xs
    exact ⟨by simp [PyData.canLayAll0, PyData.canLay0, q.1], by simp [PyData.depthAll, PyData.depth, q.2]⟩
theorem lay_nest : ∀ x : List (List Int), PyData.canLayAll0 (x.map intsD) = true ∧ PyData.depthAll (x.map intsD) ≤ 1
  | [] => ⟨by simp [PyData.canLayAll0], by simp [PyData.depthAll]⟩
  | x :: xs => by
    have q := lay_nest xs
    have q1 := lay_ints x
    refine ⟨by simp [PyData.canLayAll0, intsD, PyData.canLay0, q1.1]; simpa [intsD] using q.1, ?_⟩
    simp only [List.map_cons, PyData.depthAll]
    refine Nat.max_le.mpr ⟨?_, q.2⟩
    simp [intsD, PyData.depth, q1.2]
variable {A : Around} {E : Value → Shared → Prop} {s : Shared}
theorem nest_eq {x y : List (List Int)} {a b : Addr} {Q : Bool → Shared → Prop} (hu : A.units + 8 < cLine) (hx : NestIs P w s.heap x a) (hy : NestIs P w s.heap y b) (h : Q (decide (x = y)) s) :
    wpAny (model P w) A (eqBool (.ref a) (.ref b)) Q E s := by
  have l1 := lay_nest x
  have l2 := lay_nest y
  have d1 : (PyData.tuple (x.map intsD)).depth ≤ 2 := by simp only [PyData.depth]; omega
  refine SeqAt.eqBoolOverData P w A E s _ _ _ _ _ _ Q (nest_reads hx) (nest_reads hy) (by simpa [PyData.canLay0] using l1.1) (by simpa [PyData.canLay0] using l2.1) ?_ ?_
  · have m : min (PyData.tuple (x.map intsD)).depth (PyData.tuple (y.map intsD)).depth ≤ (PyData.tuple (x.map intsD)).depth := Nat.min_le_left _ _
    omega
  · simp only [PyData.eqv, eqv_nest]
    exact h
theorem quiet_items {a : Addr} {o : Obj} {items : Array Value} {n m : Nat} {Q : Bool → Shared → Prop} (ho : s.heap.get? a = some o) (hc : o.cls = .type "tuple") (hd : o.data = .seq items n)
    (hi : ∀ v ∈ items.toList, ∀ Q' : Bool → Shared → Prop, Q' true s → wpAny (model P w) A (eqIsQuiet m v) Q' E s) (h : Q true s) : wpAny (model P w) A (eqIsQuiet (m + 1) (.ref a)) Q E s := by
  have hT : s.TypeIs (.ref a) "tuple" := ⟨o, ho, hc⟩
  unfold eqIsQuiet
  refine wpAny_bind (wpAny_specialOf hT F.slot_tuple_eq.lookup ?_)
  show wpAny _ _ (isInstance (.ref a) (.type "tuple") >>= _) _ _ s
  refine wpAny_bind (wpAny_isInstance hT isSubtype_tuple_tuple ?_)
  simp only [Bool.not_true, Bool.false_eq_true, if_false]
  refine wpAny_bind (wpAny_seqItems ho hd (wpAny_bind ?_))
  show wpAny _ _ (forIn items _ _) _ _ s
  rw [← Array.forIn_toList]
  refine wpAny_forIn_list _ (fun left r s1 => r.1 = none ∧ s1 = s ∧ ∀ v ∈ left, v ∈ items.toList) _ ?_ ?_ _ _ ⟨rfl, rfl, fun _ z => z⟩
  · rintro v left r s1 ⟨hr, rfl, hall⟩
    refine wpAny_bind (hi v (hall v List.mem_cons_self) _ ?_)
    simp only [Bool.not_true, Bool.false_eq_true, if_false]
    exact wpAny_pure ⟨rfl, rfl, fun u z => hall u (List.mem_cons_of_mem _ z)⟩
  · rintro ⟨r1, r2⟩ s1 ⟨hr, rfl, _⟩
    have e : r1 = none := hr
    subst e
    exact wpAny_pure h
theorem all2_mem {α β : Type} {F : α → β → Prop} : ∀ {xs : List α} {ys : List β}, All2 F xs ys → ∀ y ∈ ys, ∃ x, F x y
  | _, _, .nil, _, h => by cases h
  | _, _, .cons h t, y, hy => by
    rcases List.mem_cons.mp hy with e | hy
    · subst e; exact ⟨_, h⟩
    · exact all2_mem t y hy
theorem items_byValue {is : List Int} {vs : List Value} (q : ItemsAre (intKind P w) is vs) : ∀ v ∈ vs, carriedByValue v = true := q.byValue
theorem nest_quiet {kss : List (List Int)} {a : Addr} {Q : Bool → Shared → Prop} (hk : NestIs P w s.heap kss a) (h : Q true s) : wpAny (model P w) A (eqIsQuiet 8 (.ref a)) Q E s := by
  obtain ⟨o, items, n, ho, hc, hd, hi⟩ := hk
  refine quiet_items (m := 7) ho hc hd (fun v hv Q' h' => ?_) h
  obtain ⟨is, b, rfl, o2, items2, n2, ho2, hc2, hd2, hi2⟩ := all2_mem hi v hv
  refine quiet_items (m := 6) ho2 hc2 hd2 (fun u hu Q2 h2 => ?_) h'
  rw [eqIsQuiet_byValue _ (items_byValue hi2 u hu)]
  exact wpAny_pure h2
def nestDraws (kss : List (List Int)) : Nat := (kss.map fun is => is.length + 1).sum + 1
theorem nest_hash {kss : List (List Int)} {a : Addr} {Q : Int → Shared → Prop} (hu : A.units + 8 < cLine) (hk : NestIs P w s.heap kss a) (h : Q (nestHash kss) { s with toks := s.toks + nestDraws kss }) :
    wpAny (model P w) A (pyHash (.ref a)) Q E s := by
  have hT := hk.ty
  obtain ⟨o, items, n, ho, _, hd, hi⟩ := hk
  have hu0 : A.units < cLine := by omega
  unfold pyHash
  first | unfold pyHashByItsType | skip
  first | refine wpAny_bind (wpAny_cRoomFor_or (.inr hu0) ?_) | skip
  refine wpAny_bind (wpAny_specialOf hT F.slot_tuple_hash.lookup ?_)
  show wpAny _ _ (if (some (Value.builtin "tuple.__hash__") == some Value.none) = true then _ else _) Q E s
  rw [if_neg (by rw [beq_builtin_none]; exact Bool.false_ne_true)]
  refine wpAny_bind (wpAny_specialOf hT F.slot_tuple_hash.lookup ?_)
  show wpAny _ _ (callSpecialIfBoundUnlessNone? (.ref a) "__hash__" _ >>= _) Q E s
  refine wpAny_bind (wpAny_callSpecialIfBoundUnlessNone?_slot hT F.slot_tuple_hash (wpAny_call_entry F.slot_tuple_hash hT F.entry_tuple_hash ?_ (F.args_tuple_hash_1 _)))
  show wpAny _ _ (Builtin.Tuple.tupleItemsOf (.ref a) >>= _) _ _ s
  refine wpAny_bind (wpAny_tupleItemsOf ho hd (wpAny_bind ?_))
  rw [← Array.forIn_toList]
  refine wpAny_forIn_list _
    (fun rest (b : Array Int) s1 => ∃ done left, kss = done ++ left ∧ All2 (fun (is : List Int) (v : Value) => ∃ b, v = .ref b ∧ IsTupleKey (intKind P w) s.heap is b) left rest ∧
      b.toList = done.map (fun is => reduceHash (Builtin.Tuple.tupleHashOf (is.map hashInt))) ∧ s1 = { s with toks := s.toks + (done.map fun is => is.length + 1).sum })
    _ ?_ ?_ _ _ ⟨[], kss, rfl, hi, rfl, rfl⟩
  · rintro x rest b s1 ⟨done, left, rfl, hl, hb, rfl⟩
    cases hl with
    | @cons is _ left' _ h1 hl' =>
      obtain ⟨c, rfl, q⟩ := h1
      refine wpAny_bind (wpAny_pyHash_tuple (knd := intKind P w) (s := { s with toks := s.toks + (done.map fun is => is.length + 1).sum }) ?room q ?_)
      case room => first | exact hu0 | (show _ < cLine; simp only [Around.in1]; omega) | omega
      first
        | exact wpAny_pure ⟨done ++ [is], left', by simp, hl', by simp [hb, tupleKeyHash, intKind], by simp [Nat.add_assoc]⟩
        | exact wpAny_bind (wpAny_pure (wpAny_pure ⟨done ++ [is], left', by simp, hl', by simp [hb, tupleKeyHash, intKind], by simp [Nat.add_assoc]⟩))
  · rintro b s1 ⟨done, left, rfl, hl, hb, rfl⟩
    cases hl
    rw [List.append_nil] at h
    show wpAny _ _ (retInt (Builtin.Tuple.tupleHashOf b.toList)) _ _ _
    rw [hb]
    refine wpAny_ret_mkInt ?_
    generalize hz : Builtin.Tuple.tupleHashOf (done.map fun is => reduceHash (Builtin.Tuple.tupleHashOf (is.map hashInt))) = z
    have hz' : nestHash done = reduceHash z := by rw [← hz]; rfl
    rw [hz'] at h
    unfold reduceHash at h
    show wpAny _ _ (if (decide (-(2 : Int) ^ 63 ≤ z) && decide (z < 2 ^ 63)) = true then _ else _) Q E _
    by_cases hr : (decide (-(2 : Int) ^ 63 ≤ z) && decide (z < 2 ^ 63)) = true
    · rw [if_pos hr]
      rw [if_pos hr] at h
      exact wpAny_pure (by simpa [nestDraws, Nat.add_assoc] using h)
    · rw [if_neg hr]
      rw [if_neg hr] at h
      exact wpAny_bind (wpAny_rule (wpAny_pure (by simpa [nestDraws, Nat.add_assoc] using h)))
end
def nestKind (P : Program) (w : World) : HeapKind P w (List (List Int)) where
  is := NestIs P w
  hash := nestHash
  draws := nestDraws
  room := fun A => A.units + 8 < cLine
  inj := fun hx hy => hx.inj hy
  keeps := fun x ho hd hs => x.keeps ho hd hs
  pyHash := fun hu hk h => nest_hash hu hk h
  eqBool := fun hu hx hy h => nest_eq hu hx hy h
  quiet := fun hk h => nest_quiet hk h
end Ev
namespace Ev
open PySem L2
def dLook (kvs : List (D × D)) (k : D) : Option D := (kvs.find? fun p => decide (p.1 = k)).map (·.2)
def dPut (kvs : List (D × D)) (k v : D) : List (D × D) :=
  if (kvs.any fun p => decide (p.1 = k)) = true then kvs.map (fun p => if p.1 = k then (p.1, v) else p) else kvs ++ [(k, v)]
def key1 : D → Option Key
  | .int i => some (.inl i)
  | .str s => some (.inr s)
  | _ => none
theorem key1_eq {d : D} {k : Key} (h : key1 d = some k) : d = keyD k := by
  unfold key1 at h
  split at h <;> first | (cases h; rfl) | cases h
def keys1 : List D → Option (List Key)
  | [] => some []
  | x :: xs => match key1 x, keys1 xs with
    | some k, some ks => some (k :: ks)
    | _, _ => none
theorem keys1_eq : ∀ {ds : List D} {ks : List Key}, keys1 ds = some ks → ds = ks.map keyD
  | [], ks, h => by cases h; rfl
  | x :: xs, ks, h => by
    unfold keys1 at h
    split at h
    · rename_i k ks' q1 q2
      cases h
      rw [key1_eq q1, keys1_eq q2]
      rfl
    · cases h
def ints1 : List D → Option (List Int)
  | [] => some []
  | .int i :: xs => (ints1 xs).map (i :: ·)
  | _ :: _ => none
theorem ints1_eq : ∀ {ds : List D} {is : List Int}, ints1 ds = some is → ds = is.map D.int
  | [], is, h => by cases h; rfl
  | x :: xs, is, h => by
    cases x with
    | int i =>
      unfold ints1 at h
      cases q : ints1 xs with
      | none => rw [q] at h; cases h
      | some js =>
        rw [q] at h
        cases h
        rw [ints1_eq q]
        rfl
    | _ => cases h
theorem ints1_map : ∀ is : List Int, ints1 (is.map D.int) = some is
  | [] => rfl
  | i :: is => by simp [ints1, ints1_map is]
def nest1 : List D → Option (List (List Int))
  | [] => some []
  | .tup ys :: xs => match ints1 ys, nest1 xs with
    | some is, some r => some (is :: r)
    | _, _ => none
  | _ :: _ => none
theorem nest1_eq : ∀ {ds : List D} {kss : List (List Int)}, nest1 ds = some kss → ds = kss.map fun is => .tup (is.map D.int)
  | [], _, h => by cases h; rfl
  | x :: xs, kss, h => by
    cases x with
    | tup ys =>
      unfold nest1 at h
      split at h
      · rename_i is r q1 q2
        cases h
        rw [ints1_eq q1, nest1_eq q2]
        rfl
      · cases h
    | _ => cases h
def keyOk : DK → D → Bool
  | .K, k => (key1 k).isSome
  | .T, .tup xs => (keys1 xs).isSome
  | .N, .tup xs => (nest1 xs).isSome
  | _, _ => false
section
variable {W : Wd} {ι : Nat → Addr} {n : Nat} {H H0 : Hp} {S : Store}
theorem look_K : ∀ {kvs : List (D × D)} {kv : List (Key × V)} (k : Key), All2 (fun (p : D × D) (q : Key × V) => p.1 = keyD q.1 ∧ Rep ι n H p.2 q.2) kvs kv →
    (∀ d, dLook kvs (keyD k) = some d → ∃ v, valV kv k = some v ∧ Rep ι n H d v) ∧ (dLook kvs (keyD k) = none → valV kv k = none)
  | _, _, k, .nil => ⟨fun d h => (by cases h), fun _ => rfl⟩
  | p :: kvs, q :: kv, k, .cons ⟨h1, h2⟩ t => by
    have ih := look_K k t
    by_cases e : q.1 = k
    · have e' : p.1 = keyD k := by rw [h1, e]
      have a : dLook (p :: kvs) (keyD k) = some p.2 := by simp [dLook, List.find?_cons, e']
      rw [a, valV_pos e]
      exact ⟨fun d h => ⟨q.2, rfl, by cases h; exact h2⟩, fun h => by cases h⟩
    · have e' : ¬ p.1 = keyD k := fun z => e (keyD_inj (h1.symm.trans z))
      have a : dLook (p :: kvs) (keyD k) = dLook kvs (keyD k) := by simp [dLook, List.find?_cons, e']
      rw [a, valV_neg e]
      exact ih
theorem look_T : ∀ {kvs : List (D × D)} {kv : List (List Key × V)} (k : List Key), All2 (fun (p : D × D) (q : List Key × V) => p.1 = .tup (q.1.map keyD) ∧ Rep ι n H p.2 q.2) kvs kv →
    (∀ d, dLook kvs (.tup (k.map keyD)) = some d → ∃ v, valV kv k = some v ∧ Rep ι n H d v) ∧ (dLook kvs (.tup (k.map keyD)) = none → valV kv k = none)
  | _, _, k, .nil => ⟨fun d h => (by cases h), fun _ => rfl⟩
  | p :: kvs, q :: kv, k, .cons ⟨h1, h2⟩ t => by
    have ih := look_T k t
    by_cases e : q.1 = k
    · have e' : p.1 = .tup (k.map keyD) := by rw [h1, e]
      have a : dLook (p :: kvs) (.tup (k.map keyD)) = some p.2 := by simp [dLook, List.find?_cons, e']
      rw [a, valV_pos e]
      exact ⟨fun d h => ⟨q.2, rfl, by cases h; exact h2⟩, fun h => by cases h⟩
    · have e' : ¬ p.1 = .tup (k.map keyD) := fun z => e (by
        have z2 := h1.symm.trans z
        injection z2 with z3
        exact List.map_inj_right (fun _ _ => keyD_inj) |>.mp z3)
      have a : dLook (p :: kvs) (.tup (k.map keyD)) = dLook kvs (.tup (k.map keyD)) := by simp [dLook, List.find?_cons, e']
      rw [a, valV_neg e]
      exact ih
theorem rep_key {k : Key} {v : V} (h : Rep ι n H (keyD k) v) : v = kV k := by
  cases k <;> (cases h; rfl)
theorem reps_keys : ∀ {ks : List Key} {vs : List V}, Reps ι n H (ks.map keyD) vs → vs = ks.map kV
  | [], _, h => by cases h; rfl
  | k :: ks, _, h => by
    cases h with
    | cons h1 h2 => rw [rep_key h1, reps_keys h2]; rfl
theorem reps_ints : ∀ {is : List Int} {vs : List V}, Reps ι n H (is.map D.int) vs → vs = is.map V.int
  | [], _, h => by cases h; rfl
  | k :: ks, _, h => by
    cases h with
    | cons h1 h2 => cases h1; rw [reps_ints h2]; rfl
theorem ints_reps : ∀ {is : List Int}, Reps ι n H (is.map D.int) (is.map V.int)
  | [] => .nil
  | _ :: _ => .cons (.int _) ints_reps
theorem rep_nest {kss : List (List Int)} {v : V} (h : Rep ι n H (nestD kss) v) : ∃ a, v = .ref a ∧ NestAt H kss a := by
  unfold nestD at h
  cases h with
  | @tup xs a vs h1 h2 =>
    refine ⟨a, rfl, ?_⟩
    have all : ∀ {ks : List (List Int)} {ws : List V}, Reps ι n H (ks.map fun is => .tup (is.map D.int)) ws → ∃ as : List Addr, ws = as.map V.ref ∧ All2 (fun is b => H b = some (.tup (is.map V.int))) ks as := by
      intro ks
      induction ks with
      | nil => intro ws q; cases q; exact ⟨[], rfl, .nil⟩
      | cons k ks ih =>
        intro ws q
        cases q with
        | cons q1 q2 =>
          obtain ⟨as, e1, e2⟩ := ih q2
          cases q1 with
          | @tup ys b us r1 r2 =>
            rw [reps_ints r2] at r1
            exact ⟨b :: as, by rw [e1]; rfl, .cons r1 e2⟩
    obtain ⟨as, e, q⟩ := all h2
    rw [e] at h1
    exact ⟨as, h1, q⟩
theorem keyOk_N {k : D} (h : keyOk .N k = true) : ∃ kss, k = nestD kss := by
  cases k with
  | tup xs =>
    obtain ⟨kss, q⟩ := Option.isSome_iff_exists.mp (show (nest1 xs).isSome = true from h)
    exact ⟨kss, by rw [nest1_eq q]; rfl⟩
  | _ => cases h
theorem keyOk_T {k : D} (h : keyOk .T k = true) : ∃ ks : List Key, k = .tup (ks.map keyD) := by
  cases k with
  | tup xs =>
    obtain ⟨kss, q⟩ := Option.isSome_iff_exists.mp (show (keys1 xs).isSome = true from h)
    exact ⟨kss, by rw [keys1_eq q]⟩
  | _ => cases h
theorem keyOk_K {k : D} (h : keyOk .K k = true) : ∃ q : Key, k = keyD q := by
  obtain ⟨q, e⟩ := Option.isSome_iff_exists.mp (show (key1 k).isSome = true from h)
  exact ⟨q, key1_eq e⟩
theorem nestD_inj {a b : List (List Int)} (e : nestD a = nestD b) : a = b := by
  unfold nestD at e
  injection e with e
  refine List.map_inj_right (fun x y q => ?_) |>.mp e
  injection q with q
  exact List.map_inj_right (fun _ _ z => by injection z) |>.mp q
def GetD (H : Hp) (a : Addr) (y : V) (r : Option V) : Prop :=
  DGet H a y r ∨ ∃ (xs : List (List (List Int) × Addr)) (kss : List (List Int)) (b : Addr), H a = some (.ext (dictN a xs)) ∧ (xs.map (·.1)).Nodup ∧ (a == sysModules) = false ∧ (∀ q ∈ xs, NestAt H q.1 q.2) ∧
    y = .ref b ∧ NestAt H kss b ∧ r = if kss ∈ xs.map (·.1) then some (.bl true) else none
def DicRd (ι : Nat → Addr) (n : Nat) (H : Hp) (a : Addr) : DK → List (D × D) → Prop
  | .K, kvs => ∃ kv : List (Key × V), Rd H a (.dK kv) ∧ All2 (fun (p : D × D) (q : Key × V) => p.1 = keyD q.1 ∧ Rep ι n H p.2 q.2) kvs kv
  | .T, kvs => DicAt ι n H a .T kvs
  | .N, kvs => DicAt ι n H a .N kvs
theorem DicAt.rd {a : Addr} {k : DK} {kvs : List (D × D)} (h : DicAt ι n H a k kvs) : DicRd ι n H a k kvs := by
  cases k with
  | K => obtain ⟨kv, e, r⟩ := h; exact ⟨kv, .inl e, r⟩
  | T => exact h
  | N => exact h
theorem getD_ok {a : Addr} {k : DK} {kvs : List (D × D)} {y : D} {vy : V} (h : DicRd ι n H a k kvs) (hk : keyOk k y = true) (ry : Rep ι n H y vy) :
    (∀ d, dLook kvs y = some d → ∃ v, GetD H a vy (some v) ∧ Rep ι n H d v) ∧ (dLook kvs y = none → GetD H a vy none) := by
  cases k with
  | K =>
    obtain ⟨q, rfl⟩ := keyOk_K hk
    obtain ⟨kv, e, r⟩ := h
    have ev := rep_key ry
    subst ev
    have l := look_K q r
    refine ⟨fun d hd => ?_, fun hd => .inl (.inl ⟨kv, q, e, rfl, (l.2 hd).symm⟩)⟩
    obtain ⟨v, h1, h2⟩ := l.1 d hd
    exact ⟨v, .inl (.inl ⟨kv, q, e, rfl, h1.symm⟩), h2⟩
  | T =>
    obtain ⟨q, rfl⟩ := keyOk_T hk
    obtain ⟨kv, e, r⟩ := h
    cases ry with
    | @tup _ b vs e1 e2 =>
      rw [reps_keys e2] at e1
      have l := look_T q r
      refine ⟨fun d hd => ?_, fun hd => .inl (.inr ⟨kv, q, b, .inl e, rfl, e1, (l.2 hd).symm⟩)⟩
      obtain ⟨v, h1, h2⟩ := l.1 d hd
      exact ⟨v, .inl (.inr ⟨kv, q, b, .inl e, rfl, e1, h1.symm⟩), h2⟩
  | N =>
    obtain ⟨kss, rfl⟩ := keyOk_N hk
    obtain ⟨xs, e, nd, hz, hs, r⟩ := h
    obtain ⟨b, rfl, nb⟩ := rep_nest ry
    have all : ∀ {ps : List (D × D)} {zs : List (List (List Int) × Addr)}, All2 (fun (p : D × D) (q : List (List Int) × Addr) => p.1 = nestD q.1 ∧ p.2 = .bl true ∧ NestAt H q.1 q.2) ps zs →
        (∀ q ∈ zs, NestAt H q.1 q.2) ∧ dLook ps (nestD kss) = if kss ∈ zs.map (·.1) then some (.bl true) else none := by
      intro ps zs q
      induction q with
      | nil => exact ⟨fun q hq => (by cases hq), rfl⟩
      | @cons p z ps zs h t ih =>
        obtain ⟨h1, h2, h3⟩ := h
        refine ⟨fun q hq => ?_, ?_⟩
        · rcases List.mem_cons.mp hq with e | hq
          · subst e; exact h3
          · exact ih.1 q hq
        · by_cases e : z.1 = kss
          · have e' : p.1 = nestD kss := by rw [h1, e]
            have : dLook (p :: ps) (nestD kss) = some p.2 := by simp [dLook, List.find?_cons, e']
            rw [this, h2]
            simp [e]
          · have e' : ¬ p.1 = nestD kss := fun z' => e (nestD_inj (h1.symm.trans z'))
            have : dLook (p :: ps) (nestD kss) = dLook ps (nestD kss) := by simp [dLook, List.find?_cons, e']
            rw [this, ih.2]
            have e2 : ¬ kss = z.1 := fun z' => e z'.symm
            rw [List.map_cons]
            by_cases hm : kss ∈ zs.map (·.1)
            · rw [if_pos hm, if_pos (List.mem_cons_of_mem _ hm)]
            · rw [if_neg hm, if_neg fun z' => (List.mem_cons.mp z').elim e2 hm]
    obtain ⟨a1, a2⟩ := all r
    have g : ∀ o : Option V, (o = if kss ∈ xs.map (·.1) then some (.bl true) else none) → GetD H a (.ref b) o := fun o ho => .inr ⟨xs, kss, b, e, nd, hs, a1, rfl, nb, ho⟩
    rw [a2]
    by_cases hm : kss ∈ xs.map (·.1)
    · rw [if_pos hm]
      exact ⟨fun d hd => ⟨.bl true, g _ (by rw [if_pos hm]), by cases hd; exact .bl true⟩, fun hd => by cases hd⟩
    · rw [if_neg hm]
      exact ⟨fun d hd => (by cases hd), fun _ => g _ (by rw [if_neg hm])⟩
end
section
variable {X : Cx} {pins : List (Addr × Obj)} {σ : St} {H : Hp} {s : Shared} {a : Addr}
theorem nest_is (I : Inv X pins σ H s) {kss : List (List Int)} {b : Addr} (h : NestAt H kss b) : NestIs X.prog X.w s.heap kss b := by
  obtain ⟨as, e, r⟩ := h
  obtain ⟨_, its, rv, o, ho, hc, m, hd⟩ := I.hok b _ e
  refine ⟨o, its.toArray, m, ho, hc, hd, ?_⟩
  have all : ∀ {ks : List (List Int)} {bs : List Addr} {us : List Value}, All2 (fun is b => H b = some (.tup (is.map V.int))) ks bs → Vals (bs.map V.ref) us →
      All2 (fun (is : List Int) (v : Value) => ∃ b, v = .ref b ∧ IsTupleKey (intKind X.prog X.w) s.heap is b) ks us := by
    intro ks bs us q
    induction q generalizing us with
    | nil => intro r; cases r; exact .nil
    | @cons is b ks bs h t ih =>
      intro r
      cases r with
      | @cons _ u _ us' r1 r2 =>
        refine .cons ⟨b, r1, ?_⟩ (ih r2)
        obtain ⟨_, its', rv', o', ho', hc', m', hd'⟩ := I.hok b _ h
        refine ⟨o', its'.toArray, m', ho', hc', hd', ?_⟩
        have intsI : ∀ {js : List Int} {ws : List Value}, Vals (js.map V.int) ws → ItemsAre (intKind X.prog X.w) js ws := by
          intro js
          induction js with
          | nil => intro ws q; cases q; exact .nil
          | cons j js ih =>
            intro ws q
            cases q with
            | cons q1 q2 =>
              obtain ⟨t, rfl⟩ := q1
              exact .cons (by simp [intKind, Value.isInt]) (ih q2)
        simpa using intsI rv'
  simpa using all r rv
theorem dictN_of (I : Inv X pins σ H s) {xs : List (List (List Int) × Addr)} (e : H a = some (.ext (dictN a xs))) (nd : (xs.map (·.1)).Nodup) (hn : ∀ q ∈ xs, NestAt H q.1 q.2) :
    s.heap.DictOfH (nestKind X.prog X.w) a (xs.map fun x => (x.1, x.2, Value.bool true)) := by
  obtain ⟨⟨o, es, ep, ho, hx, hd, he⟩, _⟩ := I.hok a _ e
  refine ⟨o, es, ep, ho, hx, hd, ?_, fun x hx => ?_, ?_⟩
  · rw [he, List.map_map]; rfl
  · obtain ⟨q, hq, rfl⟩ := List.mem_map.mp hx
    exact nest_is I (hn q hq)
  · rw [List.map_map]; exact nd
theorem atKey_N {xs : List (List (List Int) × Addr)} {kss : List (List Int)} : (atKey (xs.map fun x => (x.1, x.2, Value.bool true)) kss).isSome = decide (kss ∈ xs.map (·.1)) := by
  induction xs with
  | nil => rfl
  | cons x xs ih =>
    unfold atKey at ih ⊢
    rw [List.map_cons, List.find?_cons]
    by_cases e : x.1 = kss
    · simp [e]
    · simp only [decide_eq_false e]
      rw [ih]
      have e2 : ¬ kss = x.1 := fun z => e z.symm
      simp [e2]
def rInDic : R2 := fun x y H Q => ∃ a o, y = .ref a ∧ GetD H a x o ∧ Q (.bl o.isSome) H
theorem op_inDic (hu : X.A.units + 16 < cLine) : OpR X (compareOp .In) rInDic := by
  intro pins s σ H x y v u Q I rx ry h
  obtain ⟨a, o, rfl, g, q⟩ := h
  cases ry
  rcases g with g | ⟨xs, kss, b, e, nd, hs, hn, rfl, nb, rfl⟩
  · exact d_in (by omega) I g rx fun s' I' => ⟨.bl _, H, I', rfl, q⟩
  · cases rx
    refine wpAny_in_heap (knd := nestKind X.prog X.w) (by show X.A.units + 1 + 8 < cLine; omega) (nest_is I nb) hs (dictN_of I e nd hn) ?_
    rw [atKey_N]
    refine ⟨.bl _, H, I.tok _, rfl, ?_⟩
    by_cases hm : kss ∈ xs.map (·.1)
    · rw [if_pos hm] at q; simpa [hm] using q
    · rw [if_neg hm] at q; simpa [hm] using q
end
end Ev
namespace Ev
open PySem L2
def R.dicR (S : Store) : R → Option (DK × List (D × D))
  | .v (.ob h) => (match S[h]? with
    | some (.dic k kvs) => some (k, kvs)
    | some (.lck .K kvs) => some (.K, kvs)
    | _ => none)
  | .d k kvs => some (k, kvs)
  | .bd k kvs => some (k, kvs)
  | _ => none
def R.tseq : R → Option (List D)
  | .v (.tup xs) => some xs
  | .c xs => some xs
  | _ => none
section
variable {W : Wd} {ι : Nat → Addr} {n : Nat} {H H0 : Hp} {S : Store}
theorem dic_rep {r : R} {v : V} {k : DK} {kvs : List (D × D)} (Z : RSt W ι H S) (h : RR W H0 ι S.length H r v) (e : r.dicR S = some (k, kvs)) : ∃ a, v = .ref a ∧ DicRd ι S.length H a k kvs := by
  cases r with
  | v d =>
    cases d with
    | ob m =>
      cases h with
      | ob hm =>
        unfold R.dicR at e
        simp only at e
        split at e
        · rename_i k' kvs' q
          cases e
          exact ⟨_, rfl, DicAt.rd (Z.at_ m _ q)⟩
        · rename_i kvs' q
          cases e
          obtain ⟨o, kv, e1, e2⟩ := Z.at_ m _ q
          exact ⟨_, rfl, kv, .inr ⟨o, e1⟩, e2⟩
        · cases e
    | _ => cases e
  | d k' kvs' =>
    cases e
    obtain ⟨a, e, e1, _⟩ := h
    exact ⟨a, e, e1.rd⟩
  | bd k' kvs' =>
    cases e
    obtain ⟨a, e, e1, _⟩ := h
    exact ⟨a, e, e1.rd⟩
  | _ => cases e
theorem flatOf_rep {d : D} {v w : V} (h : Rep ι n H d v) (e : flatOf d = some w) : v = w ∧ flatV w = true := by
  cases d <;> first | (cases e; cases h; exact ⟨rfl, rfl⟩) | cases e
theorem flatsOf_rep : ∀ {ds : List D} {vs ws : List V}, Reps ι n H ds vs → flatsOf ds = some ws → vs = ws
  | [], _, _, h, e => by cases e; cases h; rfl
  | d :: ds, _, _, h, e => by
    unfold flatsOf at e
    split at e
    · rename_i w ws q1 q2
      cases e
      cases h with
      | cons h1 h2 => rw [(flatOf_rep h1 q1).1, flatsOf_rep h2 q2]
    · cases e
theorem flatOf_flat {d : D} {w : V} (e : flatOf d = some w) : flatV w = true := by
  cases d <;> first | (cases e; rfl) | cases e
theorem flatsOf_flat : ∀ {ds : List D} {ws : List V}, flatsOf ds = some ws → ws.all flatV = true
  | [], _, e => by cases e; rfl
  | d :: ds, _, e => by
    unfold flatsOf at e
    split at e
    · rename_i w ws q1 q2
      cases e
      simp [flatOf_flat q1, flatsOf_flat q2]
    · cases e
theorem flat_eqv {d e : D} {v w : V} (hd : flatOf d = some v) (he : flatOf e = some w) : eqV v w = PyData.eqv (toPD d) (toPD e) := by
  cases d <;> cases e <;> simp only [flatOf, Option.some.injEq, reduceCtorEq] at hd he <;> subst hd <;> subst he <;> simp [eqV, toPD, PyData.eqv]
theorem flat_any {d : D} {v : V} (hd : flatOf d = some v) : ∀ {ds : List D} {ws : List V}, flatsOf ds = some ws → inV v ws = (toPDs ds).any fun z => PyData.eqv z (toPD d)
  | [], _, e => by cases e; rfl
  | x :: ds, _, e => by
    unfold flatsOf at e
    split at e
    · rename_i w ws q1 q2
      cases e
      have ih := flat_any hd q2
      unfold inV at ih ⊢
      rw [toPDs, List.any_cons, List.any_cons, ih, flat_eqv q1 hd]
    · cases e
def inR (S : Store) (x y : R) : Option Bool :=
  match y.dicR S with
  | some (k, kvs) => (match x.flat with
    | some key => if keyOk k key = true then some (dLook kvs key).isSome else none
    | none => none)
  | none => match y.lseq S with
    | some xs => (match x.pd S with
      | some p => if okNs 60 xs = true then some ((toPDs xs).any fun z => PyData.eqv z p) else none
      | none => none)
    | none => match y.tseq, x.flat with
      | some xs, some d => if (flatOf d).isSome && (flatsOf xs).isSome then some ((toPDs xs).any fun z => PyData.eqv z (toPD d)) else none
      | _, _ => none
def gIn (S : Store) (x y : R) : Option R := (inR S x y).map fun b => .v (.bl b)
def gNotIn (S : Store) (x y : R) : Option R := (inR S x y).map fun b => .v (.bl (!b))
def rInA (K : PySem.W.Frag) : R2 := fun x y H Q => rInDic x y H Q ∨ (rInD K x y H Q ∨ rIn K false x y H Q)
theorem op_inA {X : Cx} (hu : X.A.units + 65 < cLine) : OpR X (compareOp .In) (rInA X.K) := OpR.or (op_inDic (by omega)) (OpR.or (op_inD hu) op_in_seq)
theorem tseq_rep {r : R} {v : V} {xs : List D} {ws : List V} (h : RR W H0 ι n H r v) (e : r.tseq = some xs) (hf : flatsOf xs = some ws) : ∃ a, v = .ref a ∧ SqT W.K H a ws := by
  cases r with
  | v d =>
    cases d with
    | tup ys =>
      cases e
      cases h with
      | tup h1 h2 =>
        rw [flatsOf_rep h2 hf] at h1
        exact ⟨_, rfl, .of h1⟩
    | _ => cases e
  | c ys =>
    cases e
    obtain ⟨a, vs, rfl, e1, e2⟩ := h
    rw [hf] at e1
    cases e1
    exact ⟨a, rfl, e2 H⟩
  | _ => cases e
theorem inR_sim {x y : R} {vx vy : V} {Ha Hb : Hp} {b : Bool} (Z : RSt W ι H S) (hx : RR W Ha ι S.length H x vx) (hy : RR W Hb ι S.length H y vy) (e : inR S x y = some b) :
    (∃ a o, vy = .ref a ∧ GetD H a vx o ∧ o.isSome = b) ∨
    (∃ d ds, Dp W.K H vx d ∧ Dp W.K H vy (.list ds) ∧ SeqAt.shaped d = true ∧ SeqAt.shaped (.list ds) = true ∧ (ds.any fun z => PyData.eqv z d) = b) ∨
    (∃ p xs, vy = .ref p ∧ SqT W.K H p xs ∧ flatV vx = true ∧ xs.all flatV = true ∧ inV vx xs = b) := by
  unfold inR at e
  cases q : y.dicR S with
  | some kk =>
    obtain ⟨k, kvs⟩ := kk
    rw [q] at e
    simp only at e
    cases qx : x.flat with
    | none => rw [qx] at e; cases e
    | some key =>
      rw [qx] at e
      simp only at e
      by_cases hk : keyOk k key = true
      · rw [if_pos hk] at e
        obtain ⟨a, rfl, hd⟩ := dic_rep Z hy q
        have g := getD_ok hd hk (flat_rep hx qx)
        cases ql : dLook kvs key with
        | none =>
          rw [ql] at e
          cases e
          exact .inl ⟨a, none, rfl, g.2 ql, rfl⟩
        | some d =>
          rw [ql] at e
          cases e
          obtain ⟨v, h1, _⟩ := g.1 d ql
          exact .inl ⟨a, some v, rfl, h1, rfl⟩
      · rw [if_neg hk] at e; cases e
  | none =>
    rw [q] at e
    simp only at e
    cases ql : y.lseq S with
    | some xs =>
      rw [ql] at e
      simp only at e
      cases qp : x.pd S with
      | none => rw [qp] at e; cases e
      | some p =>
        rw [qp] at e
        simp only at e
        by_cases hk : okNs 60 xs = true
        · rw [if_pos hk] at e
          cases e
          have d1 := pd_dp (K := W.K) Z hx qp
          obtain ⟨a, vs, rfl, e1, e2⟩ := lseq_rep Z hy ql
          exact .inr (.inl ⟨p, toPDs xs, d1.1, .lst (.inl e1) (Reps.dp 60 xs vs hk e2), d1.2, shaped_list hk, rfl⟩)
        · rw [if_neg hk] at e; cases e
    | none =>
      rw [ql] at e
      simp only at e
      split at e
      · rename_i xs d q1 q2
        split at e
        · rename_i c
          cases e
          obtain ⟨c1, c2⟩ := Bool.and_eq_true_iff.mp c
          obtain ⟨w, h1⟩ := Option.isSome_iff_exists.mp c1
          obtain ⟨ws, h2⟩ := Option.isSome_iff_exists.mp c2
          obtain ⟨a, rfl, h3⟩ := tseq_rep hy q1 h2
          obtain ⟨rfl, h4⟩ := flatOf_rep (flat_rep hx q2) h1
          exact .inr (.inr ⟨a, ws, rfl, h3, h4, flatsOf_flat h2, flat_any h1 h2⟩)
        · cases e
      · cases e
theorem sim_in : SimOp W (rInA W.K) gIn := by
  intro H ι S Ha Hb x y z vx vy Z hx hy e Q hQ
  unfold gIn at e
  cases q : inR S x y with
  | none => rw [q] at e; cases e
  | some b =>
    rw [q] at e
    cases e
    have fin := hQ (.bl b) H Z .refl (.bl b)
    rcases inR_sim Z hx hy q with ⟨a, o, h1, h2, h3⟩ | ⟨d, ds, h1, h2, h3, h4, h5⟩ | ⟨p, xs, h1, h2, h3, h4, h5⟩
    · exact .inl ⟨a, o, h1, h2, by rw [h3]; exact fin⟩
    · exact .inr (.inl ⟨d, ds, h1, h2, h3, h4, by rw [h5]; exact fin⟩)
    · exact .inr (.inr ⟨p, xs, h1, .inr h2, h3, h4, by rw [h5]; exact fin⟩)
def gIx (S : Store) (x y : R) : Option R :=
  match x.dicR S with
  | some (k, kvs) => (match y.flat with
    | some key => if keyOk k key && decide (k ≠ .N) then (dLook kvs key).map .v else none
    | none => none)
  | none => match x.seq S, y.int with
    | some xs, some i => (atI xs i).map .v
    | _, _ => none
theorem reps_atI {ds : List D} {vs : List V} {i : Int} {d : D} (h : Reps ι n H ds vs) (e : atI ds i = some d) : ∃ v, atI vs i = some v ∧ Rep ι n H d v := by
  unfold atI at e ⊢
  rw [← h.length]
  cases q : ixN ds.length i with
  | none => rw [q] at e; cases e
  | some j =>
    rw [q] at e
    exact h.get e
def tIxA (K : PySem.W.Frag) (ta tb : TE) : TE := fun σ H Q => tOp (fun x y H Q => rIxL K x y H Q ∨ rIxT K x y H Q) ta tb σ H Q ∨ tDGet ta tb σ H Q
theorem PE.or {X : Cx} {e : Expr} {t u : TE} (h : PE X e t) (h' : PE X e u) : PE X e (fun σ H Q => t σ H Q ∨ u σ H Q) :=
  ⟨fun pins s σ H Q I q => q.elim (h.run pins s σ H Q I) (h'.run pins s σ H Q I)⟩
theorem zak {X : Cx} {a b : Expr} {ta tb : TE} {pos : Pos} (hu : X.A.units + 1 < cLine) (ha : PE X a ta) (hb : PE X b tb) (hs : NoSl b) : PE X (.Subscript a b pos) (tIxA X.K ta tb) :=
  PE.or (pe_ix (IxR.or ix_list ix_tup) ha hb hs) (pe_dget hu ha hb hs)
theorem dget_of {a : Addr} {k : DK} {kvs : List (D × D)} {y d : D} {vy : V} (h : DicRd ι n H a k kvs) (hk : keyOk k y = true) (hN : k ≠ .N) (ry : Rep ι n H y vy) (e : dLook kvs y = some d) : ∃ v, DGet H a vy (some v) ∧ Rep ι n H d v := by
  obtain ⟨v, g, r⟩ := (getD_ok h hk ry).1 d e
  rcases g with g | ⟨xs, kss, b, e1, _⟩
  · exact ⟨v, g, r⟩
  · exfalso
    cases k with
    | K => obtain ⟨kv, e2 | ⟨o, e2⟩, _⟩ := h <;> (rw [e2] at e1; cases e1)
    | T => obtain ⟨kv, e2, _⟩ := h; rw [e2] at e1; cases e1
    | N => exact hN rfl
theorem zam {ta tb : TE} {fa fb : E} (ha : SimE W ta fa) (hb : SimE W tb fb) : SimE W (tIxA W.K ta tb) (eBin gIx fa fb) := by
  intro σ H ι ρ S H0 z S' Z N e Q hQ
  obtain ⟨x, S1, e1, e⟩ := zat e
  obtain ⟨y, S2, e2, e⟩ := zat e
  cases q : gIx S2 x y with
  | none => rw [q] at e; cases e
  | some z' =>
    rw [q] at e
    cases e
    unfold gIx at q
    cases qd : x.dicR S' with
    | some kk =>
      obtain ⟨k, kvs⟩ := kk
      rw [qd] at q
      simp only at q
      refine .inr (ha.then Z N e1 fun v1 H1 ι1 Z1 X1 N1 R1 => hb.then Z1 N1 e2 fun v2 H2 ι2 Z2 X2 N2 R2 => ?_)
      cases qy : y.flat with
      | none => rw [qy] at q; cases q
      | some key =>
        rw [qy] at q
        simp only at q
        split at q
        · rename_i c
          obtain ⟨c1, c2⟩ := Bool.and_eq_true_iff.mp c
          cases ql : dLook kvs key with
          | none => rw [ql] at q; cases q
          | some d =>
            rw [ql] at q
            cases q
            obtain ⟨a, rfl, hd⟩ := dic_rep Z2 (R1.ext X2 Z1) qd
            obtain ⟨v, g, r⟩ := dget_of hd c1 (of_decide_eq_true c2) (flat_rep R2 qy) ql
            exact ⟨a, v, rfl, g, hQ v H2 ι2 Z2 (X1.trans X2 Z1) r⟩
        · cases q
    | none =>
      rw [qd] at q
      simp only at q
      refine .inl (ha.then Z N e1 fun v1 H1 ι1 Z1 X1 N1 R1 => hb.then Z1 N1 e2 fun v2 H2 ι2 Z2 X2 N2 R2 => ?_)
      split at q
      · rename_i xs i q1 q2
        have ey := int_eq q2
        subst ey
        cases R2
        cases qa : atI xs i with
        | none => rw [qa] at q; cases q
        | some d =>
          rw [qa] at q
          cases q
          obtain ⟨a, vs, rfl, h1, h2⟩ := seq_rep Z2 (R1.ext X2 Z1) q1
          obtain ⟨v, h3, h4⟩ := reps_atI h2 qa
          have fin := hQ v H2 ι2 Z2 (X1.trans X2 Z1) h4
          rcases h1 with h1 | h1
          · exact .inl ⟨a, vs, i, v, rfl, rfl, .inl h1, h3, fin⟩
          · exact .inr ⟨a, vs, i, v, rfl, rfl, .of h1, h3, fin⟩
      · cases q
def cutD (xs : List D) (lo hi : Option Int) : List D := (xs.drop (HT.sIx xs.length 0 lo)).take (HT.sIx xs.length xs.length hi - HT.sIx xs.length 0 lo)
theorem reps_cut {ds : List D} {vs : List V} (h : Reps ι n H ds vs) (lo hi : Option Int) : Reps ι n H (cutD ds lo hi) (cutV vs lo hi) := by
  unfold cutD cutV
  rw [h.length]
  exact (h.drop _).take _
theorem cutV_whole {vs : List V} {lo hi : Option Int} (h : HT.sIx vs.length 0 lo = 0 ∧ HT.sIx vs.length vs.length hi = vs.length) : cutV vs lo hi = vs := by
  unfold cutV
  rw [h.1, h.2]
  simp
def gSl (S : Store) (x : R) (lo hi : Option Int) : Option R :=
  match x with
  | .v (.tup xs) => some (.v (.tup (cutD xs lo hi)))
  | x => match x.lseq S with
    | some xs => some (.l (cutD xs lo hi))
    | none => none
def rSlB (K : PySem.W.Frag) : V → Option Int → Option Int → Hp → VK → Prop := fun x lo hi H Q => rSlL K x lo hi H Q ∨ rSlA K x lo hi H Q
theorem sl_any {X : Cx} : SlR X (rSlB X.K) := SlR.or sl_list sl_tupA
theorem sim_sl {Ha : Hp} {x z : R} {vx : V} {lo hi : Option Int} (Z : RSt W ι H S) (hx : RR W Ha ι S.length H x vx) (e : gSl S x lo hi = some z) {Q : VK}
    (hQ : ∀ v H', RSt W ι H' S → Ext ι S.length H ι S.length H' → RR W H ι S.length H' z v → Q v H') : rSlB W.K vx lo hi H Q := by
  have lst : ∀ xs, x.lseq S = some xs → z = .l (cutD xs lo hi) → rSlB W.K vx lo hi H Q := fun xs q ez => by
    subst ez
    obtain ⟨a, vs, rfl, e1, e2⟩ := lseq_rep Z hx q
    exact .inl ⟨a, vs, rfl, .inl e1, fun p hp => new_lst Z hp (reps_cut e2 lo hi) hQ⟩
  unfold gSl at e
  split at e
  · rename_i xs
    cases e
    cases hx with
    | @tup _ a vs e1 e2 =>
      refine .inr ⟨a, vs, rfl, .of e1, fun hw => ?_, fun _ p hp => new_tup Z hp (reps_cut e2 lo hi) hQ⟩
      have r := reps_cut e2 lo hi
      rw [cutV_whole hw] at r
      exact hQ _ H Z .refl (.tup e1 r)
  · split at e
    · rename_i xs q
      cases e
      exact lst xs q rfl
    · cases e
def ePart : Option E → Env → Store → Option (Option Int × Store)
  | none, _, S => some (none, S)
  | some f, ρ, S => bnd (f ρ S) fun x S1 => x.int.map fun i => (some i, S1)
def SimP (W : Wd) (t : TO) (f : Option E) : Prop := ∀ (σ : St) (H : Hp) (ι : Nat → Addr) (ρ : Env) (S : Store) (H0 : Hp) (o : Option Int) (S' : Store),
  RSt W ι H S → REnv W H0 ι S.length H ρ σ → ePart f ρ S = some (o, S') → ∀ Q : Option Int → Hp → Prop,
    (∀ H' ι', RSt W ι' H' S' → Ext ι S.length H ι' S'.length H' → Q o H') → t σ H Q
theorem simP_none : SimP W tNoPart none := by
  intro σ H ι ρ S H0 o S' Z N e Q hQ
  cases e
  exact hQ H ι Z .refl
theorem simP_some {t : TE} {f : E} (h : SimE W t f) : SimP W (tPart t) (some f) := by
  intro σ H ι ρ S H0 o S' Z N e Q hQ
  obtain ⟨x, S1, e1, e⟩ := zat e
  cases q : x.int with
  | none => rw [q] at e; cases e
  | some i =>
    rw [q] at e
    cases e
    have := int_eq q
    subst this
    refine h.then Z N e1 fun v1 H1 ι1 Z1 X1 N1 R1 => ?_
    cases R1
    exact ⟨i, rfl, hQ H1 ι1 Z1 X1⟩
def eSlice (fa : E) (lo hi : Option E) : E := fun ρ S => bnd (fa ρ S) fun x S1 => bnd (ePart lo ρ S1) fun l S2 => bnd (ePart hi ρ S2) fun u S3 => (gSl S3 x l u).map fun z => (z, S3)
theorem sim_slice {ta : TE} {fa : E} {tl th : TO} {lo hi : Option E} (ha : SimE W ta fa) (hl : SimP W tl lo) (hh : SimP W th hi) : SimE W (tSl (rSlB W.K) ta tl th) (eSlice fa lo hi) := by
  intro σ H ι ρ S H0 z S' Z N e Q hQ
  obtain ⟨x, S1, e1, e⟩ := zat e
  obtain ⟨l, S2, e2, e⟩ := zat e
  obtain ⟨u, S3, e3, e⟩ := zat e
  cases q : gSl S3 x l u with
  | none => rw [q] at e; cases e
  | some z' =>
    rw [q] at e
    cases e
    refine ha.then Z N e1 fun v1 H1 ι1 Z1 X1 N1 R1 => ?_
    refine hl σ H1 ι1 ρ S1 H0 l S2 Z1 N1 e2 _ fun H2 ι2 Z2 X2 => ?_
    have N2 := N1.ext X2 Z1
    refine hh σ H2 ι2 ρ S2 H0 u S' Z2 N2 e3 _ fun H3 ι3 Z3 X3 => ?_
    have X13 := (X1.trans X2 Z1).trans X3 Z2
    refine sim_sl Z3 ((R1.ext X2 Z1).ext X3 Z2) q fun v H4 Z4 X4 R4 => ?_
    exact hQ v H4 ι3 Z4 (X13.trans X4 Z3) (R4.back2 X13 Z3)
end
end Ev
namespace Ev
open PySem L2
def eArgs : List E → Env → Store → Option (List R × Store)
  | [], _, S => some ([], S)
  | f :: fs, ρ, S => bnd (f ρ S) fun x S1 => bnd (eArgs fs ρ S1) fun xs S2 => some (x :: xs, S2)
def SimA (W : Wd) (t : TA) (fs : List E) : Prop := ∀ (σ : St) (H : Hp) (ι : Nat → Addr) (ρ : Env) (S : Store) (H0 : Hp) (rs : List R) (S' : Store),
  RSt W ι H S → REnv W H0 ι S.length H ρ σ → eArgs fs ρ S = some (rs, S') → ∀ Q : List V → Hp → Prop,
    (∀ vs H' ι', RSt W ι' H' S' → Ext ι S.length H ι' S'.length H' → All2 (RR W H ι' S'.length H') rs vs → Q vs H') → t σ H Q
section
variable {W : Wd} {ι ι' : Nat → Addr} {n : Nat} {H H' H0 : Hp} {S S' : Store} {ρ : Env} {σ : St} {K : PySem.W.Frag}
theorem zac : SimA W tNil [] := by
  intro σ H ι ρ S H0 rs S' Z N e Q hQ
  cases e
  exact hQ [] H ι Z .refl .nil
theorem zaa {t : TE} {f : E} {ts : TA} {fs : List E} (h : SimE W t f) (hs : SimA W ts fs) : SimA W (tCons t ts) (f :: fs) := by
  intro σ H ι ρ S H0 rs S' Z N e Q hQ
  obtain ⟨x, S1, e1, e⟩ := zat e
  obtain ⟨xs, S2, e2, e⟩ := zat e
  cases e
  refine h.then Z N e1 fun v1 H1 ι1 Z1 X1 N1 R1 => ?_
  refine hs σ H1 ι1 ρ S1 H0 xs S' Z1 N1 e2 _ fun vs H2 ι2 Z2 X2 R2 => ?_
  exact hQ (v1 :: vs) H2 ι2 Z2 (X1.trans X2 Z1) (.cons (R1.ext X2 Z1) (R2.mono fun r v q => q.back2 X1 Z1))
def SimC (W : Wd) (r : List V → Hp → VK → Prop) (g : Store → List R → Option R) : Prop := ∀ (H : Hp) (ι : Nat → Addr) (S : Store) (Ha : Hp) (xs : List R) (z : R) (vs : List V),
  RSt W ι H S → All2 (RR W Ha ι S.length H) xs vs → g S xs = some z → ∀ Q : VK,
    (∀ v H', RSt W ι H' S → Ext ι S.length H ι S.length H' → RR W H ι S.length H' z v → Q v H') → r vs H Q
def eBlt (g : Store → List R → Option R) (fs : List E) : E := fun ρ S => bnd (eArgs fs ρ S) fun xs S1 => (g S1 xs).map fun z => (z, S1)
theorem zas {t : TA} {fs : List E} {r : List V → Hp → VK → Prop} {g : Store → List R → Option R} (ha : SimA W t fs) (ho : SimC W r g) : SimE W (tCB r t) (eBlt g fs) := by
  intro σ H ι ρ S H0 z S' Z N e Q hQ
  obtain ⟨xs, S1, e1, e⟩ := zat e
  cases q : g S1 xs with
  | none => rw [q] at e; cases e
  | some z' =>
    rw [q] at e
    cases e
    refine ha σ H ι ρ S H0 xs S' Z N e1 _ fun vs H1 ι1 Z1 X1 R1 => ?_
    refine ho H1 ι1 S' H xs z vs Z1 R1 q _ fun v H3 Z3 X3 R3 => ?_
    exact hQ v H3 ι1 Z3 (X1.trans X3 Z1) (R3.back2 X1 Z1)
theorem zbK {F : R → V → Prop} {x : R} {vs : List V} (h : All2 F [x] vs) : ∃ v, vs = [v] ∧ F x v := by
  cases h with
  | cons h t => cases t; exact ⟨_, rfl, h⟩
theorem all2_two {F : R → V → Prop} {x y : R} {vs : List V} (h : All2 F [x, y] vs) : ∃ v w, vs = [v, w] ∧ F x v ∧ F y w := by
  cases h with
  | cons h t =>
    obtain ⟨w, rfl, q⟩ := zbK t
    exact ⟨_, w, rfl, h, q⟩
def gLen (S : Store) (xs : List R) : Option R := match xs with
  | [.v (.str s)] => if s.length ≤ cap then some (.v (.int s.length)) else none
  | [x] => (x.seq S).map fun ys => .v (.int ys.length)
  | _ => none
def rLenA (K : PySem.W.Frag) : List V → Hp → VK → Prop := fun xs H Q => (∃ p ys, xs = [.ref p] ∧ (SqL K H p ys ∨ SqT K H p ys) ∧ Q (.int ys.length) H) ∨ ∃ z : Str, xs = [.str z] ∧ z.length ≤ sizeLine ∧ Q (.int z.length) H
theorem CallR.or {X : Cx} {f : Value} {r r' : List V → Hp → VK → Prop} (h : CallR X f r) (h' : CallR X f r') : CallR X f (fun xs H Q => r xs H Q ∨ r' xs H Q) :=
  fun pins s σ H xs us Q I rv q => q.elim (h pins s σ H xs us Q I rv) (h' pins s σ H xs us Q I rv)
theorem zaW {X : Cx} : CallR X (.builtin "len") (rLenA X.K) := CallR.or call_len_seq call_len_str
theorem zbv : SimC W (rLenA K) gLen := by
  intro H ι S Ha xs z vs Z hx e Q hQ
  unfold gLen at e
  split at e
  · split at e
    · rename_i s c
      cases e
      obtain ⟨v, rfl, r⟩ := zbK hx
      cases r
      exact .inr ⟨s, rfl, by rw [← cap_eq]; exact c, hQ _ H Z .refl (.int _)⟩
    · cases e
  · rename_i x _
    cases q : x.seq S with
    | none => rw [q] at e; cases e
    | some ys =>
      rw [q] at e
      cases e
      obtain ⟨v, rfl, r⟩ := zbK hx
      obtain ⟨a, ws, rfl, h1, h2⟩ := seq_rep Z r q
      refine .inl ⟨a, ws, rfl, ?_, by rw [← h2.length]; exact hQ _ H Z .refl (.int _)⟩
      rcases h1 with h1 | h1
      · exact .inl (.inl h1)
      · exact .inr (.of h1)
  · cases e
def gAbs (_ : Store) (xs : List R) : Option R := match xs with
  | [x] => x.int.map fun i => .v (.int (if i < 0 then -i else i))
  | _ => none
theorem sim_abs : SimC W (fun xs H Q => ∃ i, xs = [.int i] ∧ Q (.int (if i < 0 then -i else i)) H) gAbs := by
  intro H ι S Ha xs z vs Z hx e Q hQ
  unfold gAbs at e
  split at e
  · rename_i x
    cases q : x.int with
    | none => rw [q] at e; cases e
    | some i =>
      rw [q] at e
      cases e
      obtain ⟨v, rfl, r⟩ := zbK hx
      have := int_eq q
      subst this
      cases r
      exact ⟨i, rfl, hQ _ H Z .refl (.int _)⟩
  · cases e
def gMax2 (_ : Store) (xs : List R) : Option R := match xs with
  | [.v (.int i), .v (.int j)] => some (.v (.int (if j > i then j else i)))
  | _ => none
theorem sim_max2 : SimC W (fun xs H Q => ∃ i j, xs = [.int i, .int j] ∧ Q (.int (if j > i then j else i)) H) gMax2 := by
  intro H ι S Ha xs z vs Z hx e Q hQ
  unfold gMax2 at e
  split at e
  · cases e
    obtain ⟨v, w, rfl, r1, r2⟩ := all2_two hx
    cases r1; cases r2
    exact ⟨_, _, rfl, hQ _ H Z .refl (.int _)⟩
  · cases e
def R.nums (S : Store) (x : R) : Option (List Int) := (x.lseq S).bind ints1
def minL : List Int → Int
  | [] => 0
  | [x] => x
  | x :: xs => if minL xs < x then minL xs else x
theorem minL_ok : ∀ xs : List Int, 0 < xs.length → minL xs ∈ xs ∧ ∀ y ∈ xs, minL xs ≤ y
  | [], h => absurd h (by simp)
  | [x], _ => by simp [minL]
  | x :: y :: r, _ => by
    have ih := minL_ok (y :: r) (by simp)
    unfold minL
    by_cases h : minL (y :: r) < x
    · rw [if_pos h]
      refine ⟨List.mem_cons_of_mem _ ih.1, fun z hz => ?_⟩
      rcases List.mem_cons.mp hz with e | hz
      · omega
      · exact ih.2 z hz
    · rw [if_neg h]
      refine ⟨List.mem_cons_self, fun z hz => ?_⟩
      rcases List.mem_cons.mp hz with e | hz
      · omega
      · have := ih.2 z hz; omega
theorem min_unique {xs : List Int} {m m' : Int} (h1 : m ∈ xs) (h2 : ∀ y, y ∈ xs → m ≤ y) (h3 : m' ∈ xs) (h4 : ∀ y, y ∈ xs → m' ≤ y) : m = m' := by
  have := h2 m' h3
  have := h4 m h1
  omega
def gMin (S : Store) (xs : List R) : Option R := match xs with
  | [.v (.int i), .v (.int j)] => some (.v (.int (if j < i then j else i)))
  | [x] => (x.nums S).bind fun ns => if 0 < ns.length then some (.v (.int (minL ns))) else none
  | _ => none
def rMinA (K : PySem.W.Frag) : List V → Hp → VK → Prop := fun xs H Q => (∃ i j, xs = [.int i, .int j] ∧ Q (.int (if j < i then j else i)) H) ∨ rMin K xs H Q
theorem call_minA {X : Cx} (hc : X.calm = true) : CallR X (.builtin "min") (rMinA X.K) := CallR.or (call_min2 hc) (cr_min hc)
theorem nums_rep {r : R} {v : V} {ns : List Int} (Z : RSt W ι H S) (h : RR W H0 ι S.length H r v) (e : r.nums S = some ns) : ∃ a, v = .ref a ∧ Rd H a (.lst (ns.map V.int)) := by
  unfold R.nums at e
  cases q : r.lseq S with
  | none => rw [q] at e; cases e
  | some xs =>
    rw [q] at e
    obtain ⟨a, vs, rfl, e1, e2⟩ := lseq_rep Z h q
    have ex := ints1_eq (show ints1 xs = some ns from e)
    subst ex
    rw [reps_ints e2] at e1
    exact ⟨a, rfl, e1⟩
theorem sim_min : SimC W (rMinA K) gMin := by
  intro H ι S Ha xs z vs Z hx e Q hQ
  unfold gMin at e
  split at e
  · cases e
    obtain ⟨v, w, rfl, r1, r2⟩ := all2_two hx
    cases r1; cases r2
    exact .inl ⟨_, _, rfl, hQ _ H Z .refl (.int _)⟩
  · rename_i x
    cases q : x.nums S with
    | none => rw [q] at e; cases e
    | some ns =>
      rw [q] at e
      simp only [Option.bind_some] at e
      split at e
      · rename_i c
        cases e
        obtain ⟨v, rfl, r⟩ := zbK hx
        obtain ⟨a, rfl, h1⟩ := nums_rep Z r q
        refine .inr ⟨a, ns, rfl, .inl h1, c, fun m h2 h3 => ?_⟩
        have q2 := minL_ok ns c
        rw [min_unique h2 h3 q2.1 q2.2]
        exact hQ _ H Z .refl (.int _)
      · cases e
  · cases e
def gInt (_ : Store) (xs : List R) : Option R := match xs with
  | [.v (.int i)] => some (.v (.int i))
  | [.v (.bl b)] => some (.v (.int (if b then 1 else 0)))
  | _ => none
def rIntA : List V → Hp → VK → Prop := fun xs H Q => (∃ i, xs = [.int i] ∧ Q (.int i) H) ∨ ∃ k, xs = [.bl k] ∧ Q (.int (if k then 1 else 0)) H
theorem sim_intc : SimC W rIntA gInt := by
  intro H ι S Ha xs z vs Z hx e Q hQ
  unfold gInt at e
  split at e
  · cases e
    obtain ⟨v, rfl, r⟩ := zbK hx
    cases r
    exact .inl ⟨_, rfl, hQ _ H Z .refl (.int _)⟩
  · cases e
    obtain ⟨v, rfl, r⟩ := zbK hx
    cases r
    exact .inr ⟨_, rfl, hQ _ H Z .refl (.int _)⟩
  · cases e
def gStr (_ : Store) (xs : List R) : Option R := match xs with
  | [.v (.int i)] => if decide (0 ≤ i) && decide (i < 1000000) then some (.v (.str (toString i))) else none
  | _ => none
theorem sim_strc : SimC W (fun xs H Q => ∃ i : Int, xs = [.int i] ∧ i.natAbs.log2 < 1920 ∧ Q (.str (toString i)) H) gStr := by
  intro H ι S Ha xs z vs Z hx e Q hQ
  unfold gStr at e
  split at e
  · split at e
    · rename_i i c
      cases e
      simp only [Bool.and_eq_true, decide_eq_true_eq] at c
      obtain ⟨v, rfl, r⟩ := zbK hx
      cases r
      refine ⟨_, rfl, ?_, hQ _ H Z .refl (.str _)⟩
      have hb : i.natAbs < 1000000 := by omega
      by_cases h0 : i.natAbs = 0
      · rw [h0]; decide
      · have := (Nat.log2_lt h0 (k := 1920)).mpr (Nat.lt_trans hb (by decide))
        exact this
    · cases e
  · cases e
def bools1 : List D → Option (List Bool)
  | [] => some []
  | .bl i :: xs => (bools1 xs).map (i :: ·)
  | _ :: _ => none
theorem reps_bools : ∀ {ds : List D} {bs : List Bool} {vs : List V}, bools1 ds = some bs → Reps ι n H ds vs → vs = bs.map V.bl
  | [], _, _, e, h => by cases e; cases h; rfl
  | x :: ds, bs, _, e, h => by
    cases x with
    | bl b =>
      unfold bools1 at e
      cases q : bools1 ds with
      | none => rw [q] at e; cases e
      | some cs =>
        rw [q] at e
        cases e
        cases h with
        | cons h1 h2 => cases h1; rw [reps_bools q h2]; rfl
    | _ => cases e
def gAll (S : Store) (xs : List R) : Option R := match xs with
  | [x] => ((x.lseq S).bind bools1).map fun bs => .v (.bl (bs.all id))
  | _ => none
theorem sim_all : SimC W (rAll K) gAll := by
  intro H ι S Ha xs z vs Z hx e Q hQ
  unfold gAll at e
  split at e
  · rename_i x
    cases q : x.lseq S with
    | none => rw [q] at e; cases e
    | some ys =>
      rw [q] at e
      simp only [Option.bind_some] at e
      cases q2 : bools1 ys with
      | none => rw [q2] at e; cases e
      | some bs =>
        rw [q2] at e
        cases e
        obtain ⟨v, rfl, r⟩ := zbK hx
        obtain ⟨a, ws, rfl, h1, h2⟩ := lseq_rep Z r q
        rw [reps_bools q2 h2] at h1
        exact ⟨a, bs, rfl, .inl h1, hQ _ H Z .refl (.bl _)⟩
  · cases e
def gList (S : Store) (xs : List R) : Option R := match xs with
  | [x] => (x.seq S).map fun ys => .l ys
  | _ => none
theorem sim_list : SimC W (fun xs H Q => ∃ p ys, xs = [.ref p] ∧ (SqL K H p ys ∨ SqT K H p ys) ∧ ∀ l, H l = none → Q (.ref l) (upd H l (.lst ys))) gList := by
  intro H ι S Ha xs z vs Z hx e Q hQ
  unfold gList at e
  split at e
  · rename_i x
    cases q : x.seq S with
    | none => rw [q] at e; cases e
    | some ys =>
      rw [q] at e
      cases e
      obtain ⟨v, rfl, r⟩ := zbK hx
      obtain ⟨a, ws, rfl, h1, h2⟩ := seq_rep Z r q
      refine ⟨a, ws, rfl, ?_, fun l hl => new_lst Z hl h2 hQ⟩
      rcases h1 with h1 | h1
      · exact .inl (.inl h1)
      · exact .inr (.of h1)
  · cases e
def gTuple (S : Store) (xs : List R) : Option R := match xs with
  | [x] => (x.seq S).map fun ys => .v (.tup ys)
  | _ => none
theorem zbc : SimC W (fun xs H Q => ∃ p ys, xs = [.ref p] ∧ ((SqL K H p ys ∧ ∀ l, H l = none → Q (.ref l) (upd H l (.tup ys))) ∨ (SqT K H p ys ∧ Q (.ref p) H))) gTuple := by
  intro H ι S Ha xs z vs Z hx e Q hQ
  unfold gTuple at e
  split at e
  · rename_i x
    cases q : x.seq S with
    | none => rw [q] at e; cases e
    | some ys =>
      rw [q] at e
      cases e
      obtain ⟨v, rfl, r⟩ := zbK hx
      obtain ⟨a, ws, rfl, h1, h2⟩ := seq_rep Z r q
      rcases h1 with h1 | h1
      · exact ⟨a, ws, rfl, .inl ⟨.inl h1, fun l hl => new_tup Z hl h2 hQ⟩⟩
      · exact ⟨a, ws, rfl, .inr ⟨.of h1, hQ _ H Z .refl (.tup h1 h2)⟩⟩
  · cases e
def insI (x : Int) : List Int → List Int
  | [] => [x]
  | y :: ys => if x ≤ y then x :: y :: ys else y :: insI x ys
def sortI : List Int → List Int
  | [] => []
  | x :: xs => insI x (sortI xs)
theorem insI_perm (x : Int) : ∀ ys : List Int, (insI x ys).Perm (x :: ys)
  | [] => .refl _
  | y :: ys => by
    unfold insI
    split
    · exact .refl _
    · exact ((insI_perm x ys).cons y).trans (.swap x y ys)
theorem insI_mem {x z : Int} {ys : List Int} (h : z ∈ insI x ys) : z = x ∨ z ∈ ys := List.mem_cons.mp ((insI_perm x ys).mem_iff.mp h)
theorem insI_sorted (x : Int) : ∀ ys : List Int, ys.Pairwise (· ≤ ·) → (insI x ys).Pairwise (· ≤ ·)
  | [], _ => by simp [insI]
  | y :: ys, h => by
    unfold insI
    rw [List.pairwise_cons] at h
    split
    · rename_i c
      rw [List.pairwise_cons, List.pairwise_cons]
      refine ⟨fun z hz => ?_, h⟩
      rcases List.mem_cons.mp hz with e | hz
      · omega
      · have := h.1 z hz; omega
    · rename_i c
      rw [List.pairwise_cons]
      refine ⟨fun z hz => ?_, insI_sorted x ys h.2⟩
      rcases insI_mem hz with e | hz
      · omega
      · exact h.1 z hz
theorem zbQ : ∀ xs : List Int, (sortI xs).Perm xs
  | [] => .refl _
  | x :: xs => (insI_perm x _).trans ((zbQ xs).cons x)
theorem sortI_sorted : ∀ xs : List Int, (sortI xs).Pairwise (· ≤ ·)
  | [] => List.Pairwise.nil
  | x :: xs => insI_sorted x _ (sortI_sorted xs)
theorem sortI_unique {xs ys : List Int} (hp : ys.Perm xs) (hs : ys.Pairwise (· ≤ ·)) : ys = sortI xs :=
  PySem.W.ksm_same (hp.trans (zbQ xs).symm) hs (sortI_sorted xs)
def gSorted (S : Store) (xs : List R) : Option R := match xs with
  | [x] => (x.nums S).map fun ns => .l ((sortI ns).map D.int)
  | _ => none
theorem sim_sorted : SimC W (rSortedI K) gSorted := by
  intro H ι S Ha xs z vs Z hx e Q hQ
  unfold gSorted at e
  split at e
  · rename_i x
    cases q : x.nums S with
    | none => rw [q] at e; cases e
    | some ns =>
      rw [q] at e
      cases e
      obtain ⟨v, rfl, r⟩ := zbK hx
      obtain ⟨a, rfl, h1⟩ := nums_rep Z r q
      refine ⟨a, ns, rfl, .inl h1, fun ns' p hp hs hn => ?_⟩
      rw [sortI_unique hp hs]
      exact new_lst Z hn ints_reps hQ
  · cases e
end
end Ev
namespace Ev
open PySem L2
inductive Ty where
  | int | bool | str | tuple | list
  deriving DecidableEq, Repr
def Ty.name : Ty → String
  | .int => "int" | .bool => "bool" | .str => "str" | .tuple => "tuple" | .list => "list"
inductive Kd where
  | non | bool | int | str | tuple | list
  deriving DecidableEq
def Kd.name : Kd → String
  | .non => "NoneType" | .bool => "bool" | .int => "int" | .str => "str" | .tuple => "tuple" | .list => "list"
def R.kd (S : Store) : R → Option Kd
  | .v .non => some .non
  | .v (.bl _) => some .bool
  | .v (.int _) => some .int
  | .v (.str _) => some .str
  | .v (.tup _) => some .tuple
  | .v (.ob h) => (match S[h]? with
    | some (.lst _) => some .list
    | _ => none)
  | .l _ => some .list
  | .b _ => some .list
  | _ => none
def isTy : Kd → Ty → Bool
  | .bool, .bool => true
  | .bool, .int => true
  | .int, .int => true
  | .str, .str => true
  | .tuple, .tuple => true
  | .list, .list => true
  | _, _ => false
theorem kit_tab : ∀ (k : Kd) (t : Ty), kitB k.name t.name = some (isTy k t) := by
  intro k t
  cases k <;> cases t <;> decide +kernel
section
variable {W : Wd} {ι ι' : Nat → Addr} {n : Nat} {H H' H0 : Hp} {S S' : Store} {ρ : Env} {σ : St} {K : PySem.W.Frag}
theorem kd_ty {x : R} {v : V} {k : Kd} (Z : RSt W ι H S) (h : RR W H0 ι S.length H x v) (e : x.kd S = some k) : TyX K H v (.type k.name) := by
  cases x with
  | v d =>
    cases d with
    | non => cases e; cases h; exact .base .non
    | bl b => cases e; cases h; exact .base (.bl b)
    | int i => cases e; cases h; exact .base (.int i)
    | str s => cases e; cases h; exact .base (.str s)
    | tup xs =>
      cases e
      cases h with
      | tup h1 h2 => exact .base (.tup h1)
    | ob m =>
      cases h with
      | ob hm =>
        unfold R.kd at e
        simp only at e
        split at e
        · rename_i xs q
          cases e
          obtain ⟨vs, e1, _⟩ := Z.at_ m _ q
          exact .base (.lst e1)
        · cases e
  | l xs =>
    cases e
    obtain ⟨a, vs, rfl, e1, _⟩ := h
    exact .base (.lst e1)
  | b xs =>
    cases e
    obtain ⟨a, vs, rfl, e1, _⟩ := h
    exact .base (.lst e1)
  | _ => cases e
def eIsi (t : Ty) (fa : E) : E := fun ρ S => bnd (fa ρ S) fun x S1 => (x.kd S1).map fun k => (.v (.bl (isTy k t)), S1)
theorem zaM {ta : TE} {fa : E} {t : Ty} (ha : SimE W ta fa) : SimE W (tCB (rIsi W.K) (tCons ta (tCons (tC (.ty t.name)) tNil))) (eIsi t fa) := by
  intro σ H ι ρ S H0 z S' Z N e Q hQ
  obtain ⟨x, S1, e1, e⟩ := zat e
  cases q : x.kd S1 with
  | none => rw [q] at e; cases e
  | some k =>
    rw [q] at e
    cases e
    refine ha.then Z N e1 fun v1 H1 ι1 Z1 X1 N1 R1 => ?_
    exact ⟨v1, .ty t.name, .type k.name, .type t.name, isTy k t, rfl, .ty _, kd_ty Z1 R1 q, kit_ty (kit_tab k t), hQ _ H1 ι1 Z1 X1 (.bl _)⟩
def insU (x : Int) : List Int → List Int
  | [] => [x]
  | y :: ys => if x < y then x :: y :: ys else if x = y then y :: ys else y :: insU x ys
def sortU : List Int → List Int
  | [] => []
  | x :: xs => insU x (sortU xs)
theorem insU_mem {x z : Int} : ∀ {ys : List Int}, z ∈ insU x ys ↔ z = x ∨ z ∈ ys
  | [] => by simp [insU]
  | y :: ys => by
    unfold insU
    split
    · simp
    · split
      · rename_i c
        subst c
        simp only [List.mem_cons]
        constructor
        · exact fun h => .inr h
        · rintro (h | h)
          · exact .inl h
          · exact h
      · simp only [List.mem_cons, insU_mem (ys := ys)]
        constructor
        · rintro (h | h | h)
          · exact .inr (.inl h)
          · exact .inl h
          · exact .inr (.inr h)
        · rintro (h | h | h)
          · exact .inr (.inl h)
          · exact .inl h
          · exact .inr (.inr h)
theorem insU_sorted (x : Int) : ∀ ys : List Int, ys.Pairwise (· < ·) → (insU x ys).Pairwise (· < ·)
  | [], _ => by simp [insU]
  | y :: ys, h => by
    have h' := h
    unfold insU
    rw [List.pairwise_cons] at h
    split
    · rw [List.pairwise_cons]
      refine ⟨fun z hz => ?_, h'⟩
      rcases List.mem_cons.mp hz with e | hz
      · omega
      · have := h.1 z hz; omega
    · split
      · exact h'
      · rw [List.pairwise_cons]
        refine ⟨fun z hz => ?_, insU_sorted x ys h.2⟩
        rcases insU_mem.mp hz with e | hz
        · omega
        · exact h.1 z hz
theorem sortU_mem {z : Int} : ∀ {xs : List Int}, z ∈ sortU xs ↔ z ∈ xs
  | [] => by simp [sortU]
  | x :: xs => by
    unfold sortU
    rw [insU_mem, List.mem_cons, sortU_mem (xs := xs)]
theorem sortU_sorted : ∀ xs : List Int, (sortU xs).Pairwise (· < ·)
  | [] => List.Pairwise.nil
  | x :: xs => insU_sorted x _ (sortU_sorted xs)
theorem strict_unique : ∀ {xs ys : List Int}, xs.Pairwise (· < ·) → ys.Pairwise (· < ·) → (∀ z, z ∈ xs ↔ z ∈ ys) → xs = ys
  | [], [], _, _, _ => rfl
  | [], y :: ys, _, _, h => absurd ((h y).mpr List.mem_cons_self) (by simp)
  | x :: xs, [], _, _, h => absurd ((h x).mp List.mem_cons_self) (by simp)
  | x :: xs, y :: ys, hx, hy, h => by
    rw [List.pairwise_cons] at hx hy
    have e : x = y := by
      have h1 := (h x).mp List.mem_cons_self
      have h2 := (h y).mpr List.mem_cons_self
      rcases List.mem_cons.mp h1 with e | h1
      · exact e
      · rcases List.mem_cons.mp h2 with e | h2
        · exact e.symm
        · have := hy.1 x h1
          have := hx.1 y h2
          omega
    subst e
    rw [strict_unique hx.2 hy.2 fun z => ?_]
    constructor
    · intro hz
      rcases List.mem_cons.mp ((h z).mp (List.mem_cons_of_mem _ hz)) with e | q
      · have := hx.1 z hz; omega
      · exact q
    · intro hz
      rcases List.mem_cons.mp ((h z).mpr (List.mem_cons_of_mem _ hz)) with e | q
      · have := hy.1 z hz; omega
      · exact q
def rSetT (K : PySem.W.Frag) (w : World) : List V → Hp → VK → Prop := fun xs H Q => ∃ (p : Addr) (ns : List Int), xs = [.ref p] ∧ SqT K H p (ns.map V.int) ∧ ns.length ≤ 1000 ∧
  ∀ (l : Addr) (c : Nat), H l = none → c ≤ ns.length → Q (.ref l) (upd H l (SetO w l (fun j => decide (j ∈ ns)) c))
theorem call_setT {X : Cx} (hc : X.calm = true) : CallR X (.type "set") (rSetT X.K X.w) := by
  intro pins s σ H xs us Q I r h
  obtain ⟨p, ns, rfl, hq, hl, q⟩ := h
  obtain ⟨u, rfl, ru⟩ := vals1 r
  cases ru
  obtain ⟨its, rv, pt, hz⟩ := I.tuple hq
  refine call_set_tupI ns (I.ok.hd hc) (show s.heap.IsTuple p its.toArray from pt) (ints_of_vals rv) (by unfold scanBound; omega) fun h' tk c R1 hcn k => ?_
  have hn : H s.heap.objs.size = none := I.hok.fresh (Nat.le_refl _)
  exact ⟨.ref s.heap.objs.size, _, I.laid (t' := tk) k (Nat.le_refl _) (setO_new R1), rfl, q _ c hn hcn⟩
def eSortedSet (fa : E) : E := fun ρ S => bnd (fa ρ S) fun x S1 => match x with
  | .v (.tup xs) => (ints1 xs).bind fun ns => if ns.length < 64 then some (.l ((sortU ns).map D.int), S1) else none
  | _ => none
theorem sim_sortedSet {ta : TE} {fa : E} (ha : SimE W ta fa) : SimE W (tCB (rSortedSet W.w) (tCons (tCB (rSetT W.K W.w) (tCons ta tNil)) tNil)) (eSortedSet fa) := by
  intro σ H ι ρ S H0 z S' Z N e Q hQ
  obtain ⟨x, S1, e1, e⟩ := zat e
  split at e
  · rename_i xs
    cases q : ints1 xs with
    | none => rw [q] at e; cases e
    | some ns =>
      rw [q] at e
      simp only [Option.bind_some] at e
      split at e
      · rename_i c
        cases e
        refine ha.then Z N e1 fun v1 H1 ι1 Z1 X1 N1 R1 => ?_
        have ex := ints1_eq q
        subst ex
        cases R1 with
        | tup h1 h2 =>
          rw [reps_ints h2] at h1
          refine ⟨_, ns, rfl, .of h1, by omega, fun l m hl hm => ?_⟩
          refine ⟨l, _, m, rfl, upd_same, by omega, fun ns' p hs hmem _ hp => ?_⟩
          have Z2 := Z1.upd (o := SetO W.w l (fun j => decide (j ∈ ns)) m) hl
          have X2 : Ext ι1 S'.length H1 ι1 S'.length (upd H1 l (SetO W.w l (fun j => decide (j ∈ ns)) m)) := Ext.upd hl
          have en : ns' = sortU ns := strict_unique hs (sortU_sorted ns) fun z => by rw [hmem, sortU_mem, decide_eq_true_eq]
          rw [en]
          refine new_lst Z2 hp ints_reps fun v H3 Z3 X3 R3 => ?_
          have X13 := X1.trans X2 Z1
          exact hQ v H3 ι1 Z3 (X13.trans X3 Z2) (R3.back2 X13 Z2)
      · cases e
  · cases e
def rangeD (n : Int) : List D := (List.range n.toNat).map fun i => .int (i : Nat)
def smallN (n : Int) : Bool := decide (0 ≤ n) && decide (n ≤ 16777216)
def eListRg (fa : E) : E := fun ρ S => bnd (fa ρ S) fun x S1 => x.int.bind fun n => if smallN n then some (.l (rangeD n), S1) else none
def eTupRg (fa : E) : E := fun ρ S => bnd (fa ρ S) fun x S1 => x.int.bind fun n => if smallN n then some (.v (.tup (rangeD n)), S1) else none
theorem reps_range {n : Int} {m : Nat} : Reps ι m H (rangeD n) (rgV 0 n) := by
  unfold rangeD rgV
  have e : (n - 0).toNat = n.toNat := by rw [Int.sub_zero]
  rw [e]
  have all : ∀ l : List Nat, Reps ι m H (l.map fun i => D.int (i : Nat)) (l.map fun i => V.int (0 + (i : Nat))) := by
    intro l
    induction l with
    | nil => exact .nil
    | cons i l ih =>
      refine .cons ?_ ih
      show Rep ι m H (D.int (i : Nat)) (V.int (0 + (i : Nat)))
      rw [Int.zero_add]
      exact .int _
  exact all _
theorem sim_listRg {ta : TE} {fa : E} (ha : SimE W ta fa) : SimE W (tLstRg (tRg1 ta)) (eListRg fa) := by
  intro σ H ι ρ S H0 z S' Z N e Q hQ
  obtain ⟨x, S1, e1, e⟩ := zat e
  cases q : x.int with
  | none => rw [q] at e; cases e
  | some m =>
    rw [q] at e
    simp only [Option.bind_some] at e
    split at e
    · rename_i c
      cases e
      have := int_eq q
      subst this
      simp only [smallN, Bool.and_eq_true, decide_eq_true_eq] at c
      refine ha.then Z N e1 fun v1 H1 ι1 Z1 X1 N1 R1 => ?_
      cases R1
      refine ⟨m, rfl, RgOk.of_le (by omega) c.2 (by omega) c.1, fun p hp => ?_⟩
      exact new_lst Z1 hp reps_range fun v H3 Z3 X3 R3 => hQ v H3 ι1 Z3 (X1.trans X3 Z1) (R3.back2 X1 Z1)
    · cases e
theorem sim_tupRg {ta : TE} {fa : E} (ha : SimE W ta fa) : SimE W (tTupRg (tRg1 ta)) (eTupRg fa) := by
  intro σ H ι ρ S H0 z S' Z N e Q hQ
  obtain ⟨x, S1, e1, e⟩ := zat e
  cases q : x.int with
  | none => rw [q] at e; cases e
  | some m =>
    rw [q] at e
    simp only [Option.bind_some] at e
    split at e
    · rename_i c
      cases e
      have := int_eq q
      subst this
      simp only [smallN, Bool.and_eq_true, decide_eq_true_eq] at c
      refine ha.then Z N e1 fun v1 H1 ι1 Z1 X1 N1 R1 => ?_
      cases R1
      refine ⟨m, rfl, RgOk.of_le (by omega) c.2 (by omega) c.1, fun p hp => ?_⟩
      exact new_tup Z1 hp reps_range fun v H3 Z3 X3 R3 => hQ v H3 ι1 Z3 (X1.trans X3 Z1) (R3.back2 X1 Z1)
    · cases e
def flats : List R → Option (List D)
  | [] => some []
  | .v d :: rs => (flats rs).map (d :: ·)
  | _ :: _ => none
theorem flats_reps : ∀ {rs : List R} {ds : List D} {vs : List V}, flats rs = some ds → All2 (RR W H0 ι n H) rs vs → Reps ι n H ds vs
  | [], _, _, e, h => by cases e; cases h; exact .nil
  | r :: rs, ds, _, e, h => by
    cases r with
    | v d =>
      unfold flats at e
      cases q : flats rs with
      | none => rw [q] at e; cases e
      | some es =>
        rw [q] at e
        cases e
        cases h with
        | cons h1 h2 => exact .cons h1 (flats_reps q h2)
    | _ => cases e
def eTup (fs : List E) : E := fun ρ S => bnd (eArgs fs ρ S) fun rs S1 => (flats rs).bind fun ds => if ds.length ≤ cap then some (.v (.tup ds), S1) else none
def eLst (fs : List E) : E := fun ρ S => bnd (eArgs fs ρ S) fun rs S1 => (flats rs).bind fun ds => if ds.length ≤ cap then some (.l ds, S1) else none
theorem zal {t : TA} {fs : List E} (ha : SimA W t fs) : SimE W (tTup t) (eTup fs) := by
  intro σ H ι ρ S H0 z S' Z N e Q hQ
  obtain ⟨rs, S1, e1, e⟩ := zat e
  cases q : flats rs with
  | none => rw [q] at e; cases e
  | some ds =>
    rw [q] at e
    simp only [Option.bind_some] at e
    split at e
    · rename_i c
      cases e
      refine ha σ H ι ρ S H0 rs S' Z N e1 _ fun vs H1 ι1 Z1 X1 R1 => ?_
      have r := flats_reps q R1
      refine ⟨by rw [← r.length, ← cap_eq]; exact c, fun p hp => ?_⟩
      exact new_tup Z1 hp r fun v H3 Z3 X3 R3 => hQ v H3 ι1 Z3 (X1.trans X3 Z1) (R3.back2 X1 Z1)
    · cases e
theorem zaH {t : TA} {fs : List E} (ha : SimA W t fs) : SimE W (tLst t) (eLst fs) := by
  intro σ H ι ρ S H0 z S' Z N e Q hQ
  obtain ⟨rs, S1, e1, e⟩ := zat e
  cases q : flats rs with
  | none => rw [q] at e; cases e
  | some ds =>
    rw [q] at e
    simp only [Option.bind_some] at e
    split at e
    · rename_i c
      cases e
      refine ha σ H ι ρ S H0 rs S' Z N e1 _ fun vs H1 ι1 Z1 X1 R1 => ?_
      have r := flats_reps q R1
      refine ⟨by rw [← r.length, ← cap_eq]; exact c, fun p hp => ?_⟩
      exact new_lst Z1 hp r fun v H3 Z3 X3 R3 => hQ v H3 ι1 Z3 (X1.trans X3 Z1) (R3.back2 X1 Z1)
    · cases e
end
end Ev
namespace Ev
open PySem L2
section
variable {W : Wd} {ι ι' : Nat → Addr} {n : Nat} {H H' H0 : Hp} {S S' : Store} {ρ : Env} {σ : St}
def boxed (r : R) (S : Store) : Option (R × Store) := match r with
  | .v d => some (.v d, S)
  | .l xs => some (.v (.ob S.length), S ++ [.lst xs])
  | .d k kvs => some (.v (.ob S.length), S ++ [.dic k kvs])
  | _ => none
def eBox (f : E) : E := fun ρ S => bnd (f ρ S) boxed
def addι (ι : Nat → Addr) (n : Nat) (a : Addr) : Nat → Addr := fun h => if h = n then a else ι h
theorem addι_same {a : Addr} : addι ι n a n = a := if_pos rfl
theorem addι_lt {a : Addr} {h : Nat} (hh : h < n) : addι ι n a h = ι h := if_neg (by omega)
theorem RSt.add {o : Ob} {a : Addr} (Z : RSt W ι H S) (ho : RepO W (addι ι S.length a) (S.length + 1) H a o) (ha : ∀ h, h < S.length → a ≠ ι h) : RSt W (addι ι S.length a) H (S ++ [o]) := by
  have hl : (S ++ [o]).length = S.length + 1 := by simp
  refine ⟨fun h u e => ?_, fun i j hi hj e => ?_⟩
  · rw [hl]
    by_cases hh : h < S.length
    · rw [List.getElem?_append_left hh] at e
      rw [addι_lt hh]
      exact (Z.at_ h u e).mono (Nat.le_succ _) (fun k hk => addι_lt hk) (fun _ _ q => q) fun _ q => q
    · have hx := (List.getElem?_eq_some_iff.mp e).1
      rw [hl] at hx
      have eh : h = S.length := by omega
      subst eh
      have e2 : (S ++ [o])[S.length]? = some o := by simp
      rw [e2] at e
      cases e
      rw [addι_same]
      exact ho
  · rw [hl] at hi hj
    by_cases h1 : i < S.length <;> by_cases h2 : j < S.length
    · rw [addι_lt h1, addι_lt h2] at e
      exact Z.inj i j h1 h2 e
    · have ej : j = S.length := by omega
      subst ej
      rw [addι_lt h1, addι_same] at e
      exact absurd e.symm (ha i h1)
    · have ei : i = S.length := by omega
      subst ei
      rw [addι_lt h2, addι_same] at e
      exact absurd e (ha j h2)
    · omega
theorem Ext.add {a : Addr} {S0 : Store} {ι0 : Nat → Addr} (X : Ext ι0 S0.length H0 ι n H) (h0 : H0 a = none) : Ext ι0 S0.length H0 (addι ι n a) (n + 1) H where
  le := Nat.le_trans X.le (Nat.le_succ _)
  same := fun h hh => by rw [addι_lt (Nat.lt_of_lt_of_le hh X.le)]; exact X.same h hh
  keep := X.keep
  new := fun h h1 h2 => by
    by_cases hh : h < n
    · rw [addι_lt hh]; exact X.new h h1 hh
    · have e : h = n := by omega
      rw [e, addι_same]; exact h0
  frz := X.frz
theorem sim_box {t : TE} {f : E} (h : SimE W t f) : SimE W t (eBox f) := by
  intro σ H ι ρ S H0 z S' Z N e Q hQ
  obtain ⟨x, S1, e1, e⟩ := zat e
  unfold boxed at e
  split at e
  · cases e
    exact h.then Z N e1 fun v1 H1 ι1 Z1 X1 N1 R1 => hQ v1 H1 ι1 Z1 X1 R1
  · rename_i xs
    cases e
    refine h.then Z N e1 fun v1 H1 ι1 Z1 X1 N1 R1 => ?_
    obtain ⟨a, vs, rfl, h1, h2, h3, h4⟩ := R1
    have Z2 := Z1.add (o := .lst xs) (a := a) ⟨vs, h1, Reps.mono (Nat.le_succ _) (fun k hk => addι_lt hk) (fun _ _ q => q) _ _ h2⟩ h4
    have X2 := X1.add h3
    refine hQ _ H1 _ Z2 (by simpa using X2) ?_
    have r : Rep (addι ι1 S1.length a) (S1.length + 1) H1 (.ob S1.length) (.ref (addι ι1 S1.length a S1.length)) := .ob (Nat.lt_succ_self _)
    rw [addι_same] at r
    show Rep _ _ _ _ _
    simpa using r
  · rename_i k kvs
    cases e
    refine h.then Z N e1 fun v1 H1 ι1 Z1 X1 N1 R1 => ?_
    obtain ⟨a, rfl, h1, h3, h4⟩ := R1
    have Z2 := Z1.add (o := .dic k kvs) (a := a) (h1.mono (Nat.le_succ _) (fun k hk => addι_lt hk) (fun _ _ q => q) (fun _ q => q)) h4
    have X2 := X1.add h3
    refine hQ _ H1 _ Z2 (by simpa using X2) ?_
    have r : Rep (addι ι1 S1.length a) (S1.length + 1) H1 (.ob S1.length) (.ref (addι ι1 S1.length a S1.length)) := .ob (Nat.lt_succ_self _)
    rw [addι_same] at r
    show Rep _ _ _ _ _
    simpa using r
  · cases e
def eDNew (k : DK) : E := fun _ S => some (.d k [], S)
theorem sim_dnewK : SimE W tDNewK (eDNew .K) := by
  intro σ H ι ρ S H0 z S' Z N e Q hQ
  cases e
  intro p hp
  exact hQ _ _ ι (Z.upd hp) (Ext.upd hp) ⟨p, rfl, ⟨[], upd_same, .nil⟩, hp, Z.ne_new hp⟩
def tDNewN : TE := fun _ H Q => ∀ p, H p = none → (p == sysModules) = false → Q (.ref p) (upd H p (.ext (dictN p [])))
theorem pe_dnewN {X : Cx} {pos : Pos} : PE X (.Dict [] [] pos) tDNewN := ⟨fun pins s σ H Q I h => by
  have hp := I.hok.fresh (Nat.le_refl s.heap.objs.size)
  have hs : (s.heap.objs.size == sysModules) = false := beq_eq_false_iff_ne.mpr (Ne.symm (Nat.ne_of_lt I.big))
  refine wpAny_Dict_empty ⟨.ref s.heap.objs.size, _, I.laid (a := s.heap.objs.size) (o := .ext (dictN s.heap.objs.size [])) (t' := s.toks) (fun _ _ q => Heap.get?_push_of_some _ q) (Nat.le_refl _) ?_, rfl, h _ hp hs⟩
  refine ⟨⟨_, #[], 0, Heap.get?_push_size _ rfl, ⟨rfl, rfl, rfl⟩, rfl, rfl⟩, ⟨_, Heap.get?_push_size _ rfl⟩, fun h1 h2 q k => ?_⟩
  obtain ⟨o, es, ep, q1, q2⟩ := q
  exact ⟨o, es, ep, k o q1, q2⟩⟩
theorem sim_dnewN : SimE W tDNewN (eDNew .N) := by
  intro σ H ι ρ S H0 z S' Z N e Q hQ
  cases e
  intro p hp hs
  exact hQ _ _ ι (Z.upd hp) (Ext.upd hp) ⟨p, rfl, ⟨[], upd_same, List.nodup_nil, Nat.zero_le _, hs, .nil⟩, hp, Z.ne_new hp⟩
def spOf (W : Wd) (m : Nat) (run : Ru) : Sp := fun vs H Q _ => vs.length = m ∧ ∃ (ι : Nat → Addr) (S : Store) (Ha : Hp) (rs : List R) (r : R) (S' : Store), RSt W ι H S ∧ All2 (RR W Ha ι S.length H) rs vs ∧ run rs S = some (r, S') ∧
  ∀ v H' ι', RSt W ι' H' S' → Ext ι S.length H ι' S'.length H' → RR W H ι' S'.length H' r v → Q v H'
def dV : D → V
  | .int i => .int i
  | .bl b => .bl b
  | .str s => .str s
  | _ => .non
def isDfl : D → Bool
  | .int _ => true
  | .bl _ => true
  | .str _ => true
  | .non => true
  | _ => false
theorem dfl_rep {d : D} (h : isDfl d = true) : RR W H0 ι n H (.v d) (dV d) := by
  cases d <;> first | (cases h; done) | exact .non | exact .bl _ | exact .int _ | exact .str _
theorem dfls_rep : ∀ {ds : List D}, ds.all isDfl = true → All2 (RR W H0 ι n H) (ds.map R.v) (ds.map dV)
  | [], _ => .nil
  | d :: ds, h => by
    rw [List.all_cons, Bool.and_eq_true] at h
    exact .cons (dfl_rep h.1) (dfls_rep h.2)
def eCall (run : Ru) (dfl : List D) (fs : List E) : E := fun ρ S => bnd (eArgs fs ρ S) fun rs S1 => run (rs ++ dfl.map R.v) S1
theorem eArgs_len : ∀ {fs : List E} {ρ : Env} {S : Store} {rs : List R} {S' : Store}, eArgs fs ρ S = some (rs, S') → rs.length = fs.length
  | [], _, _, _, _, h => by cases h; rfl
  | f :: fs, ρ, S, rs, S', h => by
    obtain ⟨x, S1, e1, e⟩ := zat h
    obtain ⟨xs, S2, e2, e⟩ := zat e
    cases e
    simp [eArgs_len e2]
theorem zai {t : TA} {fs : List E} {run : Ru} {m : Nat} {dfl : List D} {E : XK} (ha : SimA W t fs) (hm : fs.length + dfl.length = m) (hd : dfl.all isDfl = true) : SimE W (tCall (spOf W m run) (dfl.map dV) E t) (eCall run dfl fs) := by
  intro σ H ι ρ S H0 z S' Z N e Q hQ
  obtain ⟨rs, S1, e1, e⟩ := zat e
  refine ha σ H ι ρ S H0 rs S1 Z N e1 _ fun vs H1 ι1 Z1 X1 R1 => ?_
  refine ⟨?_, ι1, S1, H, rs ++ dfl.map R.v, z, S', Z1, R1.append (dfls_rep hd), e, fun v H2 ι2 Z2 X2 R2 => ?_⟩
  · rw [List.length_append, List.length_map, ← R1.length, eArgs_len e1]; exact hm
  · exact hQ v H2 ι2 Z2 (X1.trans X2 Z1) (R2.back2 X1 Z1)
structure WOk (W : Wd) : Prop where
  cl : ∀ c, Cls W.K (W.CA c)
  na : ∀ c f, f ∈ W.FN → NoAttr W.K (W.CA c) f
  nd : W.FN.Nodup
def ePick (fs : List E) (fb : E) : E := fun ρ S => bnd (eArgs fs ρ S) fun rs S1 => bnd (fb ρ S1) fun y S2 => y.int.bind fun i => if rs.length ≤ cap then (atI rs i).map fun r => (r, S2) else none
theorem all2_atI {F : R → V → Prop} {rs : List R} {vs : List V} {i : Int} {r : R} (h : All2 F rs vs) (e : atI rs i = some r) : ∃ v, atI vs i = some v ∧ F r v := by
  unfold atI at e ⊢
  rw [← h.length]
  cases q : ixN rs.length i with
  | none => rw [q] at e; cases e
  | some j =>
    rw [q] at e
    exact h.get e
theorem sim_pick {t : TA} {fs : List E} {tb : TE} {fb : E} (ha : SimA W t fs) (hb : SimE W tb fb) : SimE W (tIxA W.K (tLst t) tb) (ePick fs fb) := by
  intro σ H ι ρ S H0 z S' Z N e Q hQ
  obtain ⟨rs, S1, e1, e⟩ := zat e
  obtain ⟨y, S2, e2, e⟩ := zat e
  cases q : y.int with
  | none => rw [q] at e; cases e
  | some i =>
    rw [q] at e
    simp only [Option.bind_some] at e
    split at e
    · rename_i c
      cases q2 : atI rs i with
      | none => rw [q2] at e; cases e
      | some r =>
        rw [q2] at e
        cases e
        have := int_eq q
        subst this
        refine .inl (ha σ H ι ρ S H0 rs S1 Z N e1 _ fun vs H1 ι1 Z1 X1 R1 => ⟨by rw [← R1.length, ← cap_eq]; exact c, fun p hp => ?_⟩)
        have Z2 := Z1.upd (o := .lst vs) hp
        have XP : Ext ι1 S1.length H1 ι1 S1.length (upd H1 p (.lst vs)) := Ext.upd hp
        have X12 := X1.trans XP Z1
        refine hb.then Z2 (N.ext X12 Z) e2 fun v2 H2 ι2 Z3 X3 N3 R3 => ?_
        cases R3
        have hp2 : H2 p = some (.lst vs) := X3.keep p _ upd_same (Z1.ne_new hp)
        obtain ⟨v, h1, h2⟩ := all2_atI R1 q2
        refine .inl ⟨p, vs, i, v, rfl, rfl, .of hp2, h1, hQ v H2 ι2 Z3 (X12.trans X3 Z2) ?_⟩
        exact (h2.ext XP Z1).ext X3 Z2
    · cases e
end
end Ev
namespace Ev
open PySem L2
section
variable {W : Wd} {ι ι' ι1 : Nat → Addr} {n n' : Nat} {H H' H0 H1 : Hp} {S S' S1 : Store} {ρ : Env} {σ : St}
theorem zaB {α : Type} {l : List α} {i j : Nat} {x y : α} (h : (l.set i x)[j]? = some y) : (j = i ∧ y = x) ∨ (j ≠ i ∧ l[j]? = some y) := by
  by_cases e : j = i
  · subst e
    have hl := (List.getElem?_eq_some_iff.mp h).1
    rw [List.length_set] at hl
    rw [List.getElem?_set_self hl] at h
    exact .inl ⟨rfl, (Option.some.inj h).symm⟩
  · rw [List.getElem?_set_ne (Ne.symm e)] at h
    exact .inr ⟨e, h⟩
theorem REnv.setS (N : REnv W H0 ι n H ρ σ) (i : Nat) {s : Sl} {o : Option V} (ok : SlOk W H0 ι n H o s)
    (h1 : ∀ (j : Nat) t a, j ≠ i → ρ[j]? = some t → s.own = true → t.lends = true → o = some (.ref a) → σ[j]? ≠ some (some (.ref a)))
    (h2 : ∀ (j : Nat) t a, j ≠ i → ρ[j]? = some t → t.own = true → s.lends = true → o = some (.ref a) → σ[j]? ≠ some (some (.ref a))) : REnv W H0 ι n H (ρ.set i s) (σ.set i o) := by
  refine ⟨by rw [List.length_set, List.length_set]; exact N.len, fun j t u e1 e2 => ?_, fun j k s1 t1 a hjk e1 e2 o1 o2 e3 e4 => ?_⟩
  · rcases zaB e1 with ⟨rfl, rfl⟩ | ⟨hj, e1⟩
    · rcases zaB e2 with ⟨_, rfl⟩ | ⟨hj, _⟩
      · exact ok
      · exact absurd rfl hj
    · rcases zaB e2 with ⟨q, _⟩ | ⟨_, e2⟩
      · exact absurd q hj
      · exact N.at_ j t u e1 e2
  · rcases zaB e1 with ⟨rfl, rfl⟩ | ⟨hj, e1'⟩
    · rcases zaB e2 with ⟨q, _⟩ | ⟨hk, e2'⟩
      · exact hjk q.symm
      · rcases zaB e3 with ⟨_, q3⟩ | ⟨q, _⟩
        · rcases zaB e4 with ⟨q, _⟩ | ⟨_, e4⟩
          · exact hk q
          · exact h1 k t1 a hk e2' o1 o2 q3.symm e4
        · exact q rfl
    · rcases zaB e3 with ⟨q, _⟩ | ⟨_, e3'⟩
      · exact hj q
      · rcases zaB e2 with ⟨rfl, rfl⟩ | ⟨hk, e2'⟩
        · rcases zaB e4 with ⟨_, q4⟩ | ⟨q, _⟩
          · exact h2 j s1 a hj e1' o1 o2 q4.symm e3'
          · exact q rfl
        · rcases zaB e4 with ⟨q, _⟩ | ⟨_, e4⟩
          · exact hk q
          · exact N.sep j k s1 t1 a hjk e1' e2' o1 o2 e3' e4
theorem REnv.setV (N : REnv W H0 ι n H ρ σ) (i : Nat) {d : D} {v : V} (r : Rep ι n H d v) : REnv W H0 ι n H (ρ.set i (.v d)) (σ.set i (some v)) :=
  N.setS i ⟨v, rfl, r⟩ (fun _ _ _ _ _ q _ _ => by cases q) (fun _ _ _ _ _ _ q _ => by cases q)
theorem REnv.unset (N : REnv W H0 ι n H ρ σ) (i : Nat) (o : Option V) : REnv W H0 ι n H (ρ.set i .no) (σ.set i o) :=
  N.setS i trivial (fun _ _ _ _ _ q _ _ => by cases q) (fun _ _ _ _ _ _ q _ => by cases q)
def wipeE (ρ : Env) : List Nat → Env
  | [] => ρ
  | v :: vs => (wipeE ρ vs).set v .no
theorem REnv.wipe (N : REnv W H0 ι n H ρ σ) : ∀ vs : List Nat, REnv W H0 ι n H (wipeE ρ vs) (wipe σ vs)
  | [] => N
  | v :: vs => (REnv.wipe N vs).unset v none
theorem wipe_set {x : Option V} {i : Nat} : ∀ {vs : List Nat} {σ : St}, i ∈ vs → wipe (σ.set i x) vs = wipe σ vs
  | v :: vs, σ, h => by
    unfold L2.wipe
    by_cases e : i = v
    · subst e
      have all : ∀ {us : List Nat}, (wipe (σ.set i x) us).set i none = (wipe σ us).set i none := by
        intro us
        induction us with
        | nil => unfold L2.wipe; rw [List.set_set]
        | cons u us ih =>
          unfold L2.wipe
          by_cases q : u = i
          · subst q
            rw [ih]
          · rw [List.set_comm _ _ q, ih, List.set_comm _ _ q]
      exact all
    · rw [wipe_set ((List.mem_cons.mp h).resolve_left e)]
abbrev Tg := D → Env → Option Env
def SimG (W : Wd) (g : TG) (f : Tg) (js : List Nat) : Prop := ∀ (σ : St) (H : Hp) (ι : Nat → Addr) (ρ : Env) (S : Store) (H0 : Hp) (d : D) (v : V) (ρ' : Env),
  RSt W ι H S → REnv W H0 ι S.length H ρ σ → Rep ι S.length H d v → f d ρ = some ρ' → ∀ Q : St → Hp → Prop,
    (∀ σ', REnv W H0 ι S.length H ρ' σ' → (∀ vs : List Nat, (∀ j ∈ js, j ∈ vs) → wipe σ' vs = wipe σ vs) → Q σ' H) → g v σ H Q
def tgName (i : Nat) : Tg := fun d ρ => some (ρ.set i (.v d))
theorem zaF {i : Nat} : SimG W (gName i) (tgName i) [i] := by
  intro σ H ι ρ S H0 d v ρ' Z N r e Q hQ
  cases e
  exact hQ _ (N.setV i r) fun vs h => wipe_set (h i (by simp))
def setAll : List Nat → List D → Env → Option Env
  | [], [], ρ => some ρ
  | i :: is, d :: ds, ρ => setAll is ds (ρ.set i (.v d))
  | _, _, _ => none
def tgTup (is : List Nat) : Tg := fun d ρ => match d with
  | .tup ds => setAll is ds ρ
  | _ => none
def gNames : List Nat → TGs
  | [] => gNil
  | i :: is => gCons (gName i) (gNames is)
theorem simG_names : ∀ {is : List Nat} {σ : St} {ρ ρ' : Env} {ds : List D} {vs : List V}, REnv W H0 ι n H ρ σ → Reps ι n H ds vs → setAll is ds ρ = some ρ' → ∀ Q : St → Hp → Prop,
    (∀ σ', REnv W H0 ι n H ρ' σ' → (∀ us : List Nat, (∀ j ∈ is, j ∈ us) → wipe σ' us = wipe σ us) → Q σ' H) → gNames is vs σ H Q
  | [], σ, ρ, ρ', ds, vs, N, r, e, Q, hQ => by
    cases ds with
    | nil => cases e; cases r; exact ⟨rfl, hQ _ N fun _ _ => rfl⟩
    | cons d ds => cases e
  | i :: is, σ, ρ, ρ', ds, vs, N, r, e, Q, hQ => by
    cases ds with
    | nil => cases e
    | cons d ds =>
      cases r with
      | cons r1 r2 =>
        refine ⟨_, _, rfl, simG_names (N.setV i r1) r2 e Q fun σ' N' h => hQ σ' N' fun us hu => ?_⟩
        rw [h us fun j hj => hu j (List.mem_cons_of_mem _ hj)]
        exact wipe_set (hu i List.mem_cons_self)
theorem setAll_len : ∀ {is : List Nat} {ds : List D} {ρ ρ' : Env}, setAll is ds ρ = some ρ' → is.length = ds.length
  | [], [], _, _, _ => rfl
  | [], _ :: _, _, _, h => by cases h
  | _ :: _, [], _, _, h => by cases h
  | _ :: is, _ :: ds, _, _, h => by simp [setAll_len (is := is) (ds := ds) h]
theorem simG_tup {K : PySem.W.Frag} {is : List Nat} : SimG W (gTup K is.length (gNames is)) (tgTup is) is := by
  intro σ H ι ρ S H0 d v ρ' Z N r e Q hQ
  unfold tgTup at e
  split at e
  · rename_i ds
    cases r with
    | tup h1 h2 => exact ⟨_, _, rfl, .of h1, by rw [← h2.length, setAll_len e], simG_names N h2 e Q hQ⟩
  · cases e
theorem RSt.updAt {a : Addr} {o u : HO} (Z : RSt W ι H S) (ha : ∀ h, h < S.length → a ≠ ι h) (hu : H a = some u) (nt : ∀ vs, u ≠ .tup vs) : RSt W ι (L2.upd H a o) S := by
  have keepT : ∀ b vs, H b = some (.tup vs) → (L2.upd H a o) b = some (.tup vs) := fun b vs q => by
    by_cases e : b = a
    · subst e
      rw [hu] at q
      exact absurd (Option.some.inj q) (nt vs)
    · rw [L2.upd_ne e]; exact q
  refine ⟨fun h ob e => ?_, Z.inj⟩
  have hh := (List.getElem?_eq_some_iff.mp e).1
  exact (Z.at_ h ob e).mono (Nat.le_refl _) (fun _ _ => rfl) keepT fun w q => by rw [L2.upd_ne (Ne.symm (ha h hh))]; exact q
theorem Ext.updNew {a : Addr} {o : HO} (X : Ext ι n H ι' n' H') (h : H a = none) : Ext ι n H ι' n' (L2.upd H' a o) :=
  ⟨X.le, X.same, fun b u e hb => by rw [L2.upd_ne (ne_of_none e h)]; exact X.keep b u e hb, X.new, fun b o' u e => by rw [L2.upd_ne (ne_of_none e h)]; exact X.frz b o' u e⟩
theorem Reps.updAt {a : Addr} {o u : HO} {ds : List D} {vs : List V} (r : Reps ι n H ds vs) (hu : H a = some u) (nt : ∀ vs, u ≠ .tup vs) : Reps ι n (L2.upd H a o) ds vs :=
  Reps.mono (Nat.le_refl _) (fun _ _ => rfl) (fun b ws q => by
    by_cases e : b = a
    · subst e
      rw [hu] at q
      exact absurd (Option.some.inj q) (nt ws)
    · rw [L2.upd_ne e]; exact q) _ _ r
theorem Rep.updAt {a : Addr} {o u : HO} {d : D} {v : V} (r : Rep ι n H d v) (hu : H a = some u) (nt : ∀ vs, u ≠ .tup vs) : Rep ι n (L2.upd H a o) d v := by
  have q : Reps ι n H [d] [v] := .cons r .nil
  cases q.updAt (o := o) hu nt with
  | cons r _ => exact r
inductive Src where
  | no
  | lst (h : Nat) (xs : List D)
  | dic (h : Nat) (k : DK) (kvs : List (D × D))
def Src.alive (S : Store) : Src → Bool
  | .no => true
  | .lst h xs => decide (S[h]? = some (.lst xs))
  | .dic h k kvs => decide (S[h]? = some (.lck k kvs))
structure Walks (W : Wd) (J : It) (src : Src) (its : List D) (ι : Nat → Addr) (n : Nat) (P : Hp) : Prop where
  go : ∀ (i : Nat) (d : D) (ι' : Nat → Addr) (S' : Store) (H' : Hp), RSt W ι' H' S' → n ≤ S'.length → (∀ h, h < n → ι' h = ι h) → (∀ a o, P a = some o → H' a = some o) → src.alive S' = true → its[i]? = some d →
    J.go i H' ∧ ∀ x H2, J.yld i H' x H2 → RSt W ι' H2 S' ∧ Ext ι' S'.length H' ι' S'.length H2 ∧ Rep ι' S'.length H2 d x
  stop : ∀ (i : Nat) (ι' : Nat → Addr) (S' : Store) (H' : Hp), RSt W ι' H' S' → n ≤ S'.length → (∀ h, h < n → ι' h = ι h) → (∀ a o, P a = some o → H' a = some o) → src.alive S' = true → its.length ≤ i → J.stop i H'
abbrev Fi := Env → Store → Option ((List D × Src × Bool) × Store)
def SimI (W : Wd) (wi : TI) (f : Fi) : Prop := ∀ (σ : St) (H : Hp) (ι : Nat → Addr) (ρ : Env) (S : Store) (H0 : Hp) (its : List D) (src : Src) (ok : Bool) (S' : Store),
  RSt W ι H S → REnv W H0 ι S.length H ρ σ → f ρ S = some ((its, src, ok), S') → ∀ Rq : It → Hp → Prop,
    (∀ J H1 ι1 P, RSt W ι1 H1 S' → Ext ι S.length H ι1 S'.length H1 → (∀ a o, P a = some o → H1 a = some o ∧ ∀ h, h < S'.length → a ≠ ι1 h) →
      (ok = true → ∀ a o (i : Nat) s, P a = some o → ρ[i]? = some s → s.own = true → σ[i]? ≠ some (some (.ref a))) → Walks W J src its ι1 S'.length P → Rq J H1) → wi σ H Rq
def tups (H : Hp) : Hp := fun a => match H a with
  | some (.tup vs) => some (.tup vs)
  | _ => none
theorem tups_eq {a : Addr} {o : HO} (h : tups H a = some o) : ∃ vs, o = .tup vs ∧ H a = some (.tup vs) := by
  unfold tups at h
  split at h
  · rename_i vs q
    cases h
    exact ⟨vs, rfl, q⟩
  · cases h
theorem tups_of {a : Addr} {vs : List V} (h : H a = some (.tup vs)) : tups H a = some (.tup vs) := by
  unfold tups; rw [h]
def tupsAnd (H : Hp) (b : Addr) : Hp := fun a => if a = b then H a else tups H a
theorem tupsAnd_self {b : Addr} : tupsAnd H b b = H b := if_pos rfl
theorem tupsAnd_tup {a b : Addr} {vs : List V} (h : H a = some (.tup vs)) : tupsAnd H b a = some (.tup vs) := by
  unfold tupsAnd
  split
  · exact h
  · exact tups_of h
theorem tupsAnd_in {a b : Addr} {o : HO} (Z : RSt W ι H S) (hb : ∀ h, h < S.length → b ≠ ι h) (h : tupsAnd H b a = some o) : H a = some o ∧ ∀ h, h < S.length → a ≠ ι h := by
  unfold tupsAnd at h
  split at h
  · rename_i e
    subst e
    exact ⟨h, hb⟩
  · obtain ⟨vs, rfl, q⟩ := tups_eq h
    exact ⟨q, Z.tup_ne q⟩
theorem tups_in {a : Addr} {o : HO} (Z : RSt W ι H S) (h : tups H a = some o) : H a = some o ∧ ∀ h, h < S.length → a ≠ ι h := by
  obtain ⟨vs, rfl, q⟩ := tups_eq h
  exact ⟨q, Z.tup_ne q⟩
theorem own_tup {i : Nat} {s : Sl} {a : Addr} {vs : List V} (N : REnv W H0 ι n H ρ σ) (e : ρ[i]? = some s) (ho : s.own = true) (es : σ[i]? = some (some (.ref a))) : H a ≠ some (.tup vs) := by
  have ok := N.at_ i s _ e es
  cases s with
  | l xs => obtain ⟨b, ws, e1, e2, _⟩ := ok; cases e1; rw [e2]; intro q; cases q
  | d k kvs =>
    obtain ⟨b, e1, e2, _⟩ := ok
    cases e1
    intro q
    have m := mut_dic e2
    rw [q] at m
    exact m
  | _ => cases ho
theorem own_there {i : Nat} {s : Sl} {a : Addr} (N : REnv W H0 ι n H ρ σ) (e : ρ[i]? = some s) (ho : s.own = true) (es : σ[i]? = some (some (.ref a))) : ∃ o, H a = some o := by
  have ok := N.at_ i s _ e es
  cases s with
  | l xs => obtain ⟨b, ws, e1, e2, _⟩ := ok; cases e1; exact ⟨_, e2⟩
  | d k kvs => obtain ⟨b, e1, e2, _⟩ := ok; cases e1; exact e2.there
  | _ => cases ho
def R.src (xs : List D) : R → Src × Bool
  | .v (.ob h) => (.lst h xs, true)
  | .v _ => (.no, true)
  | .l _ => (.no, true)
  | _ => (.no, false)
def fSeq (fa : E) : Fi := fun ρ S => bnd (fa ρ S) fun x S1 => (x.seq S1).map fun xs => ((xs, x.src xs), S1)
def fVar (i : Nat) : Fi := fun ρ S => match ρ[i]? with
  | some (.f xs) => some ((xs, .no, true), S)
  | some (.b xs) => some ((xs, .no, true), S)
  | _ => fSeq (eVar i) ρ S
def iSeq (K : PySem.W.Frag) (t : TE) : TI := fun σ H R => iList K t σ H R ∨ iTup K t σ H R
theorem PI.or {X : Cx} {tg e : Expr} {a b : TI} (h : PI X tg e a) (h' : PI X tg e b) : PI X tg e (fun σ H R => a σ H R ∨ b σ H R) :=
  ⟨fun pins s σ H R I q => q.elim (h.run pins s σ H R I) (h'.run pins s σ H R I)⟩
theorem zba {X : Cx} {tg e : Expr} {t : TE} (h : PE X e t) : PI X tg e (iSeq X.K t) := PI.or (pi_list h) (pi_tup h)
theorem walks_list {K : PySem.W.Frag} {a : Addr} {src : Src} {xs : List D} {P : Hp} (hs : ∀ (ι' : Nat → Addr) (S' : Store) (H' : Hp), RSt W ι' H' S' → n ≤ S'.length → (∀ h, h < n → ι' h = ι h) → (∀ a o, P a = some o → H' a = some o) → src.alive S' = true →
      ∃ ws, SqL K H' a ws ∧ Reps ι' S'.length H' xs ws) : Walks W (Itl K a) src xs ι n P := by
  refine ⟨fun i d ι' S' H' Z' le sm kp al e => ?_, fun i ι' S' H' Z' le sm kp al hl => ?_⟩
  · obtain ⟨ws, h1, h2⟩ := hs ι' S' H' Z' le sm kp al
    obtain ⟨v, e1, r1⟩ := h2.get e
    refine ⟨⟨ws, v, h1, e1⟩, fun x H2 y => ?_⟩
    obtain ⟨rfl, y⟩ := y
    have e2 := y ws h1
    rw [e1] at e2
    cases e2
    exact ⟨Z', .refl, r1⟩
  · obtain ⟨ws, h1, h2⟩ := hs ι' S' H' Z' le sm kp al
    exact ⟨ws, h1, by rw [← h2.length]; exact hl⟩
theorem walks_tup {K : PySem.W.Frag} {a : Addr} {xs : List D} {vs : List V} (h : H a = some (.tup vs)) (hr : Reps ι n H xs vs) : Walks W (Itt K a) .no xs ι n (tups H) := by
  have all : ∀ (ι' : Nat → Addr) (S' : Store) (H' : Hp), n ≤ S'.length → (∀ h, h < n → ι' h = ι h) → (∀ a o, tups H a = some o → H' a = some o) → H' a = some (.tup vs) ∧ Reps ι' S'.length H' xs vs := fun ι' S' H' le sm kp =>
    ⟨kp a _ (tups_of h), Reps.mono le sm (fun b ws q => kp b _ (tups_of q)) _ _ hr⟩
  refine ⟨fun i d ι' S' H' Z' le sm kp al e => ?_, fun i ι' S' H' Z' le sm kp al hl => ?_⟩
  · obtain ⟨h1, h2⟩ := all ι' S' H' le sm kp
    obtain ⟨v, e1, r1⟩ := h2.get e
    refine ⟨⟨vs, v, .of h1, e1⟩, fun x H2 y => ?_⟩
    obtain ⟨rfl, y⟩ := y
    have e2 := y vs (.of h1)
    rw [e1] at e2
    cases e2
    exact ⟨Z', .refl, r1⟩
  · exact ⟨vs, .of (all ι' S' H' le sm kp).1, by rw [← hr.length]; exact hl⟩
def ListSrc (W : Wd) (ι : Nat → Addr) (S : Store) (H : Hp) (x : R) (xs : List D) (v : V) : Prop := ∃ (a : Addr) (vs : List V) (P : Hp), v = .ref a ∧ Rd H a (.lst vs) ∧ Reps ι S.length H xs vs ∧
    (∀ b o, P b = some o → H b = some o ∧ ∀ h, h < S.length → b ≠ ι h) ∧ (∀ b o, P b = some o → (∃ ws, o = HO.tup ws) ∨ b = a) ∧ ((∃ m, x = .v (.ob m)) → ∀ b o, P b = some o → ∃ ws, o = HO.tup ws) ∧
    ∀ (ι' : Nat → Addr) (S' : Store) (H' : Hp), RSt W ι' H' S' → S.length ≤ S'.length → (∀ h, h < S.length → ι' h = ι h) → (∀ b o, P b = some o → H' b = some o) → (x.src xs).1.alive S' = true → ∃ ws, Rd H' a (.lst ws) ∧ Reps ι' S'.length H' xs ws
theorem src_plain {x : R} {v : V} {xs : List D} {a : Addr} {vs : List V} (Z : RSt W ι H S) (e1 : v = .ref a) (e2 : Rd H a (.lst vs)) (e3 : Reps ι S.length H xs vs) (e5 : ∀ h, h < S.length → a ≠ ι h) (nx : ¬ ∃ m, x = .v (.ob m)) : ListSrc W ι S H x xs v := by
  refine ⟨a, vs, tupsAnd H a, e1, e2, e3, fun b o q => tupsAnd_in Z e5 q, fun b o q => ?_, fun h => absurd h nx, fun ι' S' H' Z' le sm kp al => ⟨vs, ?_, Reps.mono le sm (fun b ws q => kp b _ (tupsAnd_tup q)) _ _ e3⟩⟩
  · by_cases hb : b = a
    · exact .inr hb
    · unfold tupsAnd at q
      rw [if_neg hb] at q
      obtain ⟨ws, q1, _⟩ := tups_eq q
      exact .inl ⟨ws, q1⟩
  · rcases e2 with h | ⟨o, h⟩
    · exact .inl (kp a _ (by rw [tupsAnd_self]; exact h))
    · exact .inr ⟨o, kp a _ (by rw [tupsAnd_self]; exact h)⟩
theorem list_src {x : R} {v : V} {xs : List D} (Z : RSt W ι H S) (r : RR W H0 ι S.length H x v) (e : x.lseq S = some xs) : ListSrc W ι S H x xs v := by
  cases x with
  | v d =>
    cases d with
    | ob m =>
      obtain ⟨a, vs, e1, e2, e3⟩ := lseq_rep (r := .v (.ob m)) Z r e
      refine ⟨a, vs, tups H, e1, e2, e3, fun b o q => tups_in Z q, fun b o q => ?_, fun _ b o q => ?_, fun ι' S' H' Z' le sm kp al => ?_⟩
      · obtain ⟨ws, q1, _⟩ := tups_eq q
        exact .inl ⟨ws, q1⟩
      · obtain ⟨ws, q1, _⟩ := tups_eq q
        exact ⟨ws, q1⟩
      · have al' : S'[m]? = some (.lst xs) := of_decide_eq_true al
        obtain ⟨ws, h1, h2⟩ := Z'.at_ m _ al'
        cases r with
        | ob hm =>
          cases e1
          rw [sm m hm] at h1
          exact ⟨ws, .inl h1, h2⟩
    | _ => cases e
  | l ys =>
    cases e
    obtain ⟨a, vs, e1, e2, e3, _, e5⟩ := r
    exact src_plain Z e1 (.inl e2) e3 e5 fun ⟨m, q⟩ => by cases q
  | b ys =>
    cases e
    obtain ⟨a, vs, e1, e2, e3, e5⟩ := r
    exact src_plain Z e1 (.inl e2) e3 e5 fun ⟨m, q⟩ => by cases q
  | _ => cases e
theorem seq_lseq {x : R} {xs : List D} (e : x.seq S = some xs) : x.lseq S = some xs ∨ x = .v (.tup xs) := by
  cases x with
  | v d =>
    cases d with
    | tup ys => cases e; exact .inr rfl
    | ob m => exact .inl e
    | _ => cases e
  | l ys => exact .inl e
  | b ys => exact .inl e
  | _ => cases e
theorem src_own {x : R} {v : V} {xs : List D} {a : Addr} {P : Hp} (N : REnv W H0 ι S.length H ρ σ) (Z : RSt W ι H S) (X : Ext ι S.length H ι1 S1.length H1) (Z1 : RSt W ι1 H1 S1) (r : RR W H ι1 S1.length H1 x v) (e : x.lseq S1 = some xs) (ev : v = .ref a)
    (hp : ∀ b o, P b = some o → H1 b = some o ∧ ∀ h, h < S1.length → b ≠ ι1 h) (h2 : ∀ b o, P b = some o → (∃ ws, o = .tup ws) ∨ b = a) (h3 : (∃ m, x = .v (.ob m)) → ∀ b o, P b = some o → ∃ ws, o = .tup ws) (ok : (x.src xs).2 = true) :
    ∀ b o (i : Nat) s, P b = some o → ρ[i]? = some s → s.own = true → σ[i]? ≠ some (some (.ref b)) := by
  intro b o i s hb ei ho es
  have N1 := N.ext X Z
  have nt : (∃ ws, o = .tup ws) → False := fun ⟨ws, q⟩ => by
    subst q
    exact own_tup N1 ei ho es (hp b _ hb).1
  rcases h2 b o hb with q | q
  · exact nt q
  · subst q
    cases x with
    | v d =>
      cases d with
      | ob m => exact nt (h3 ⟨m, rfl⟩ b o hb)
      | _ => cases e
    | l ys =>
      obtain ⟨c, vs, e1, _, _, e4, _⟩ := r
      rw [ev] at e1
      cases e1
      obtain ⟨u, q⟩ := own_there N ei ho es
      rw [e4] at q
      cases q
    | _ => cases ok
theorem za0 {t : TE} {fa : E} (ha : SimE W t fa) : SimI W (iSeq W.K t) (fSeq fa) := by
  intro σ H ι ρ S H0 its src ok S' Z N e Rq hR
  obtain ⟨x, S1, e1, e⟩ := zat e
  cases q : x.seq S1 with
  | none => rw [q] at e; cases e
  | some xs =>
    rw [q] at e
    simp only [Option.map_some, Option.some.injEq, Prod.mk.injEq] at e
    obtain ⟨⟨rfl, e2⟩, rfl⟩ := e
    rcases seq_lseq q with q | q
    · refine .inl (ha.then Z N e1 fun v1 H1 ι1 Z1 X1 N1 R1 => ?_)
      obtain ⟨a, vs, P, ev, h1, h2, hp, ho, h3, h4⟩ := list_src Z1 R1 q
      refine ⟨a, ev, ⟨vs, .inl h1⟩, hR _ H1 ι1 P Z1 X1 hp (fun hok => src_own N Z X1 Z1 R1 q ev hp ho h3 (by rw [e2]; exact hok)) (walks_list fun ι' S2 H2 Z2 le sm kp al => ?_)⟩
      obtain ⟨ws, w1, w2⟩ := h4 ι' S2 H2 Z2 le sm kp (by rw [e2]; exact al)
      exact ⟨ws, .inl w1, w2⟩
    · subst q
      cases e2
      refine .inr (ha.then Z N e1 fun v1 H1 ι1 Z1 X1 N1 R1 => ?_)
      have R1' : Rep ι1 S1.length H1 (.tup xs) v1 := R1
      cases R1' with
      | tup h1 h2 =>
        refine ⟨_, rfl, ⟨_, .of h1⟩, hR _ H1 ι1 _ Z1 X1 (fun b o q => tups_in Z1 q) (fun _ b o i s hb ei ho es => ?_) (walks_tup h1 h2)⟩
        obtain ⟨ws, rfl, q⟩ := tups_eq hb
        exact own_tup N1 ei ho es q
theorem zbp {i : Nat} : SimI W (iSeq W.K (tVar i)) (fVar i) := by
  intro σ H ι ρ S H0 its src ok S' Z N e Rq hR
  cases qr : ρ[i]? with
  | none =>
    unfold fVar at e
    rw [qr] at e
    unfold fSeq eVar at e
    rw [qr] at e
    cases e
  | some s =>
    have hi : i < σ.length := by
      have := (List.getElem?_eq_some_iff.mp qr).1
      rw [N.len] at this
      exact this
    have qs : σ[i]? = some σ[i] := by simp [hi]
    have same : (∀ xs, s ≠ .b xs) → (∀ xs, s ≠ .f xs) → fVar i ρ S = fSeq (eVar i) ρ S := fun h1 h2 => by
      unfold fVar
      rw [qr]
      cases s with
      | b xs => exact absurd rfl (h1 xs)
      | f xs => exact absurd rfl (h2 xs)
      | _ => rfl
    have lent : ∀ (x : R) (xs : List D) (a : Addr) (vs : List V), s.lends = true → s.own = false → σ[i]? = some (some (.ref a)) → RR W H ι S.length H x (.ref a) → x.lseq S = some xs → (x.src xs).1 = .no → its = xs → src = .no → S' = S → iSeq W.K (tVar i) σ H Rq := by
      intro x xs a vs hl hno es R1 q hsrc rfl rfl rfl
      obtain ⟨a', vs', P, ev, h1, h2, hp, ho, h3, h4⟩ := list_src Z R1 q
      cases ev
      refine .inl ⟨.ref a, es, a, rfl, ⟨vs', .inl h1⟩, hR _ H ι P Z .refl hp (fun _ b o j t hb ej hw ej2 => ?_) (walks_list fun ι' S2 H2 Z2 le sm kp al => ?_)⟩
      · rcases ho b o hb with ⟨ws, rfl⟩ | rfl
        · exact own_tup N ej hw ej2 (hp b _ hb).1
        · by_cases hij : j = i
          · subst hij
            rw [ej] at qr
            cases qr
            rw [hw] at hno
            cases hno
          · exact N.sep j i t s b hij ej qr hw hl ej2 es
      · obtain ⟨ws, w1, w2⟩ := h4 ι' S2 H2 Z2 le sm kp (by rw [hsrc]; exact al)
        exact ⟨ws, .inl w1, w2⟩
    cases s with
    | b xs =>
      obtain ⟨a, vs, k1, k2⟩ := N.at_ i _ _ qr qs
      unfold fVar at e
      rw [qr] at e
      simp only [Option.some.injEq, Prod.mk.injEq] at e
      obtain ⟨⟨e1, e2, e3⟩, e4⟩ := e
      exact lent (.b xs) xs a vs rfl rfl (by rw [qs, k1]) ⟨a, vs, rfl, k2⟩ rfl rfl e1.symm e2.symm e4.symm
    | f xs =>
      obtain ⟨a, vs, k1, k2, k3⟩ := N.at_ i _ _ qr qs
      unfold fVar at e
      rw [qr] at e
      simp only [Option.some.injEq, Prod.mk.injEq] at e
      obtain ⟨⟨rfl, rfl, rfl⟩, rfl⟩ := e
      rcases k2 with ⟨o, k2, k4⟩ | k2
      · have hp : ∀ b u, tupsAnd H a b = some u → H b = some u ∧ ∀ h, h < S.length → b ≠ ι h := fun b u q => tupsAnd_in Z k4 q
        refine .inl ⟨.ref a, by rw [qs, k1], a, rfl, ⟨vs, .inl (.inr ⟨o, k2⟩)⟩, hR _ H ι (tupsAnd H a) Z .refl hp (fun _ b u j t hb ej hw ej2 => ?_) (walks_list fun ι' S2 H2 Z2 le sm kp al => ⟨vs, .inl (.inr ⟨o, kp a _ (by rw [tupsAnd_self]; exact k2)⟩), Reps.mono le sm (fun b ws q => kp b _ (tupsAnd_tup q)) _ _ k3⟩)⟩
        by_cases hba : b = a
        · subst hba
          have q2 := (hp b _ hb).1
          have ok := N.at_ j t _ ej ej2
          cases t with
          | l ys => obtain ⟨c, ws, c1, c2, _⟩ := ok; cases c1; rw [k2] at c2; cases c2
          | d k kvs =>
            obtain ⟨c, c1, c2, _⟩ := ok
            cases c1
            have m := mut_dic c2
            rw [k2] at m
            exact m
          | _ => cases hw
        · unfold tupsAnd at hb
          rw [if_neg hba] at hb
          obtain ⟨ws, rfl, q⟩ := tups_eq hb
          exact own_tup N ej hw ej2 q
      · refine .inl ⟨.ref a, by rw [qs, k1], a, rfl, ⟨vs, .inr k2⟩, hR _ H ι (tups H) Z .refl (fun b u q => tups_in Z q) (fun _ b u j t hb ej hw ej2 => ?_) (walks_list fun ι' S2 H2 Z2 le sm kp al => ⟨vs, .inr k2, Reps.mono le sm (fun b ws q => kp b _ (tups_of q)) _ _ k3⟩)⟩
        obtain ⟨ws, rfl, q⟩ := tups_eq hb
        exact own_tup N ej hw ej2 q
    | no => rw [same (fun _ q => by cases q) fun _ q => by cases q] at e; exact za0 zab σ H ι ρ S H0 its src ok S' Z N e Rq hR
    | v d => rw [same (fun _ q => by cases q) fun _ q => by cases q] at e; exact za0 zab σ H ι ρ S H0 its src ok S' Z N e Rq hR
    | l xs => rw [same (fun _ q => by cases q) fun _ q => by cases q] at e; exact za0 zab σ H ι ρ S H0 its src ok S' Z N e Rq hR
    | d k kvs => rw [same (fun _ q => by cases q) fun _ q => by cases q] at e; exact za0 zab σ H ι ρ S H0 its src ok S' Z N e Rq hR
def fRange (fa : E) : Fi := fun ρ S => bnd (fa ρ S) fun x S1 => x.int.bind fun n => if smallN n then some ((rangeD n, .no, true), S1) else none
theorem rangeD_get {m : Int} {i : Nat} {d : D} (h : (rangeD m)[i]? = some d) : i < m.toNat ∧ d = .int (i : Nat) := by
  unfold rangeD at h
  rw [List.getElem?_map] at h
  cases q : (List.range m.toNat)[i]? with
  | none => rw [q] at h; cases h
  | some k =>
    rw [q] at h
    cases h
    have hi := (List.getElem?_eq_some_iff.mp q).1
    rw [List.length_range] at hi
    rw [List.getElem?_range hi] at q
    cases q
    exact ⟨hi, rfl⟩
theorem simI_range {t : TE} {fa : E} (ha : SimE W t fa) : SimI W (iRng1 (tCons t tNil)) (fRange fa) := by
  intro σ H ι ρ S H0 its src ok S' Z N e Rq hR
  obtain ⟨x, S1, e1, e⟩ := zat e
  cases q : x.int with
  | none => rw [q] at e; cases e
  | some m =>
    rw [q] at e
    simp only [Option.bind_some] at e
    split at e
    · rename_i c
      cases e
      have := int_eq q
      subst this
      simp only [smallN, Bool.and_eq_true, decide_eq_true_eq] at c
      refine ha.then Z N e1 fun v1 H1 ι1 Z1 X1 N1 R1 => ?_
      cases R1
      refine ⟨m, rfl, by omega, by omega, hR _ H1 ι1 (fun _ => none) Z1 X1 (fun _ _ q => by cases q) (fun _ _ _ _ _ q => by cases q) ⟨fun i d ι' S2 H2 Z2 _ _ _ al e => ?_, fun i ι' S2 H2 Z2 _ _ _ al hl => ?_⟩⟩
      · obtain ⟨hi, rfl⟩ := rangeD_get e
        refine ⟨hi, fun x H3 y => ?_⟩
        obtain ⟨rfl, rfl⟩ := y
        refine ⟨Z2, .refl, ?_⟩
        rw [Int.zero_add]
        exact .int _
      · unfold rangeD at hl
        rw [List.length_map, List.length_range] at hl
        exact hl
    · cases e
def enumD : Nat → List D → List D
  | _, [] => []
  | i, d :: ds => .tup [.int (i : Nat), d] :: enumD (i + 1) ds
theorem enumD_len : ∀ (i : Nat) (ds : List D), (enumD i ds).length = ds.length
  | _, [] => rfl
  | i, _ :: ds => by simp [enumD, enumD_len (i + 1) ds]
theorem enumD_get : ∀ {i j : Nat} {ds : List D} {d : D}, (enumD i ds)[j]? = some d → ∃ x, ds[j]? = some x ∧ d = .tup [.int ((i + j : Nat)), x]
  | i, j, [], d, h => by simp [enumD] at h
  | i, 0, x :: ds, d, h => by simp [enumD] at h; exact ⟨x, by simp, by rw [← h]; simp⟩
  | i, j + 1, x :: ds, d, h => by
    simp only [enumD, List.getElem?_cons_succ] at h
    obtain ⟨y, e1, e2⟩ := enumD_get h
    exact ⟨y, by simpa using e1, by rw [e2, show i + 1 + j = i + (j + 1) by omega]⟩
def fEnumV (i : Nat) : Fi := fun ρ S => bnd (eVar i ρ S) fun x S1 => (x.lseq S1).map fun xs => ((enumD 0 xs, (x.src xs).1, match ρ[i]? with
  | some (.b _) => true
  | _ => (x.src xs).2), S1)
theorem walks_enum {K : PySem.W.Frag} {a : Addr} {src : Src} {xs : List D} {P : Hp} (hs : ∀ (ι' : Nat → Addr) (S' : Store) (H' : Hp), RSt W ι' H' S' → n ≤ S'.length → (∀ h, h < n → ι' h = ι h) → (∀ a o, P a = some o → H' a = some o) → src.alive S' = true →
      ∃ ws, SqL K H' a ws ∧ Reps ι' S'.length H' xs ws) : Walks W (Ite K a) src (enumD 0 xs) ι n P := by
  refine ⟨fun i d ι' S2 H2 Z2 le sm kp al e => ?_, fun i ι' S2 H2 Z2 le sm kp al hl => ?_⟩
  · obtain ⟨ws, w1, w2⟩ := hs ι' S2 H2 Z2 le sm kp al
    obtain ⟨y, e3, rfl⟩ := enumD_get e
    obtain ⟨v, e4, r4⟩ := w2.get e3
    refine ⟨⟨ws, v, w1, e4⟩, fun z H3 yl => ?_⟩
    obtain ⟨T, u, rfl, hT, rfl, yl⟩ := yl
    have e5 := yl ws w1
    rw [e4] at e5
    cases e5
    have X3 : Ext ι' S2.length H2 ι' S2.length (upd H2 T (.tup [.int (i : Nat), v])) := Ext.upd hT
    refine ⟨Z2.upd hT, X3, .tup upd_same (.cons ?_ (.cons (r4.ext X3 Z2) .nil))⟩
    rw [Nat.zero_add]
    exact .int _
  · obtain ⟨ws, w1, w2⟩ := hs ι' S2 H2 Z2 le sm kp al
    rw [enumD_len] at hl
    exact ⟨ws, w1, by rw [← w2.length]; exact hl⟩
theorem simI_enumV {i : Nat} : SimI W (iEnum W.K (tCons (tVar i) tNil)) (fEnumV i) := by
  intro σ H ι ρ S H0 its src ok S' Z N e Rq hR
  unfold fEnumV at e
  obtain ⟨x, S1, e1, e⟩ := zat e
  cases q : x.lseq S1 with
  | none => rw [q] at e; cases e
  | some xs =>
    rw [q] at e
    simp only [Option.map_some, Option.some.injEq, Prod.mk.injEq] at e
    obtain ⟨⟨rfl, rfl, e3⟩, rfl⟩ := e
    have sq : x.seq S1 = some xs := by
      cases x with
      | v d => cases d <;> first | exact q | cases q
      | _ => exact q
    unfold eVar at e1
    cases qr : ρ[i]? with
    | none => rw [qr] at e1; cases e1
    | some s =>
      rw [qr] at e1 e3
      have hi : i < σ.length := by
        have := (List.getElem?_eq_some_iff.mp qr).1
        rw [N.len] at this
        exact this
      have qs : σ[i]? = some σ[i] := by simp [hi]
      have go : ∀ (a : Addr), σ[i]? = some (some (.ref a)) → RR W H ι S.length H x (.ref a) → S1 = S → (ok = true → s.own = false) → (s.lends = true ∨ (∃ m, x = .v (.ob m))) → iEnum W.K (tCons (tVar i) tNil) σ H Rq := by
        intro a es R1 eS hno hk
        subst eS
        obtain ⟨a', vs', P, ev, h1, h2, hp, ho, h3, h4⟩ := list_src Z R1 q
        cases ev
        refine ⟨.ref a, es, a, vs', rfl, .inl h1, hR _ H ι P Z .refl hp (fun hok b o j t hb ej hw ej2 => ?_) (walks_enum fun ι' S2 H2 Z2 le sm kp al => ?_)⟩
        · rcases hk with hl | hm
          · rcases ho b o hb with ⟨ws, rfl⟩ | rfl
            · exact own_tup N ej hw ej2 (hp b _ hb).1
            · by_cases hij : j = i
              · subst hij
                rw [ej] at qr
                cases qr
                have := hno hok
                rw [hw] at this
                cases this
              · exact N.sep j i t s b hij ej qr hw hl ej2 es
          · obtain ⟨ws, rfl⟩ := h3 hm b o hb
            exact own_tup N ej hw ej2 (hp b _ hb).1
        · obtain ⟨ws, w1, w2⟩ := h4 ι' S2 H2 Z2 le sm kp al
          exact ⟨ws, .inl w1, w2⟩
      have ok0 := N.at_ i s _ qr qs
      cases s with
      | no => cases e1
      | v d =>
        cases e1
        obtain ⟨v, ev, rv⟩ := ok0
        cases d with
        | ob m =>
          cases rv with
          | ob hm => exact go _ (by rw [qs, ev]) (.ob hm) rfl (fun _ => rfl) (.inr ⟨m, rfl⟩)
        | _ => cases q
      | l ys =>
        cases e1
        obtain ⟨a, vs, k1, k2, k3, k4, k5⟩ := ok0
        exact go a (by rw [qs, k1]) ⟨a, vs, rfl, k2, k3, k5⟩ rfl (fun hok => by rw [← e3] at hok; cases hok) (.inl rfl)
      | b ys =>
        cases e1
        obtain ⟨a, vs, k1, k2⟩ := ok0
        exact go a (by rw [qs, k1]) ⟨a, vs, rfl, k2⟩ rfl (fun _ => rfl) (.inl rfl)
      | f ys => cases e1; cases q
      | d k kvs => cases e1; cases q
def compF (tg : Tg) (ft fe : E) (src : Src) (ρ : Env) : List D → Store → Option (List D × Store)
  | [], S => if src.alive S then some ([], S) else none
  | d :: r, S => if src.alive S then (match tg d ρ with
    | some ρ1 => bnd (ft ρ1 S) fun b S1 => (match b.bool with
      | some true => bnd (fe ρ1 S1) fun x S2 => (match x.flat with
        | some y => bnd (compF tg ft fe src ρ r S2) fun ys S3 => some (y :: ys, S3)
        | none => none)
      | some false => compF tg ft fe src ρ r S1
      | none => none)
    | none => none) else none
def eComp (fi : Fi) (tg : Tg) (vs : List Nat) (ft fe : E) : E := fun ρ S => bnd (fi ρ S) fun p S1 => if p.1.length ≤ cap then bnd (compF tg ft fe p.2.1 (wipeE ρ vs) p.1 S1) fun ys S2 => some (.l ys, S2) else none
def eTrue : E := fun _ S => some (.v (.bl true), S)
theorem zbC : SimT W tYes eTrue := by
  intro σ H ι ρ S H0 b S' Z N e Q hQ
  cases e
  exact hQ H ι Z .refl
theorem compF_alive {tg : Tg} {ft fe : E} {src : Src} {its : List D} {r : List D × Store} (h : compF tg ft fe src ρ its S = some r) : src.alive S = true := by
  cases its with
  | nil =>
    unfold compF at h
    split at h
    · assumption
    · cases h
  | cons d ds =>
    unfold compF at h
    split at h
    · assumption
    · cases h
def Stays (ι : Nat → Addr) (n : Nat) (a : Addr) (o : HO) : Prop := (∀ h, h < n → a ≠ ι h) ∨ ∃ ob u, o = .frz ob u
theorem Ext.stay {ι2 : Nat → Addr} {n2 : Nat} {H2 : Hp} (X : Ext ι n H ι2 n2 H2) {a : Addr} {o : HO} (e : H a = some o) (h : Stays ι n a o) : H2 a = some o := by
  rcases h with h | ⟨ob, u, rfl⟩
  · exact X.keep a o e h
  · exact X.frz a ob u e
def SimJ (W : Wd) (wi : TI) (f : Fi) : Prop := ∀ (σ : St) (H : Hp) (ι : Nat → Addr) (ρ : Env) (S : Store) (H0 : Hp) (its : List D) (src : Src) (ok : Bool) (S' : Store),
  RSt W ι H S → REnv W H0 ι S.length H ρ σ → f ρ S = some ((its, src, ok), S') → ∀ Rq : It → Hp → Prop,
    (∀ J H1 ι1 P, RSt W ι1 H1 S' → Ext ι S.length H ι1 S'.length H1 → (∀ a o, P a = some o → H1 a = some o ∧ Stays ι1 S'.length a o) → Walks W J src its ι1 S'.length P → Rq J H1) → wi σ H Rq
theorem SimI.toJ {wi : TI} {f : Fi} (h : SimI W wi f) : SimJ W wi f := fun σ H ι ρ S H0 its src ok S' Z N e Rq hR =>
  h σ H ι ρ S H0 its src ok S' Z N e Rq fun J H1 ι1 P Z1 X1 hP _ wk => hR J H1 ι1 P Z1 X1 (fun a o q => ⟨(hP a o q).1, .inl (hP a o q).2⟩) wk
theorem sim_compJ {wi : TI} {fi : Fi} {g : TG} {tg : Tg} {js vs : List Nat} {tt : TT} {ft : E} {te : TE} {fe : E} (hi : SimJ W wi fi) (hg : SimG W g tg js) (hj : ∀ j ∈ js, j ∈ vs) (ht : SimT W tt ft) (he : SimE W te fe) :
    SimE W (tLc wi g tt te vs) (eComp fi tg vs ft fe) := by
  intro σ H ι ρ S H0 z S' Z N e Q hQ
  obtain ⟨⟨its, src, okf⟩, S1, e1, e⟩ := zat e
  simp only at e
  by_cases hcap : its.length ≤ cap
  · rw [if_pos hcap] at e
    obtain ⟨ys, S2, e2, e⟩ := zat e
    cases e
    refine hi σ H ι ρ S H0 its src okf S1 Z N e1 _ fun J H1 ι1 P Z1 X1 hP wk => ?_
    intro L hL
    have hL0 : H L = none := X1.dom Z1 hL
    have N1 := N.ext X1 Z
    refine ⟨fun i m Hh => m = its.length - i ∧ i ≤ its.length ∧ ∃ (ι' : Nat → Addr) (Sh : Store) (acc : List V) (accD ds : List D), RSt W ι' Hh Sh ∧ Ext ι1 S1.length H1 ι' Sh.length Hh ∧ Hh L = some (.lst acc) ∧ Reps ι' Sh.length Hh accD acc ∧
        (∀ h, h < Sh.length → L ≠ ι' h) ∧ acc.length ≤ i ∧ compF tg ft fe src (wipeE ρ vs) (its.drop i) Sh = some (ds, S') ∧ accD ++ ds = ys, ⟨its.length, by simp, Nat.zero_le _, ι1, S1, [], [], ys, Z1.upd hL, Ext.upd hL, upd_same, .nil, Z1.ne_new hL, Nat.zero_le _, by simpa using e2, rfl⟩, ?_⟩
    rintro i m Hh ⟨rfl, hil, ι', Sh, acc, accD, ds, Zh, Xh, hLh, rh, nh, hal, ec, ed⟩
    have al := compF_alive ec
    have kpP : ∀ a o, P a = some o → Hh a = some o := fun a o q => Xh.stay (hP a o q).1 (hP a o q).2
    have NW : REnv W H0 ι' Sh.length Hh (wipeE ρ vs) (wipe σ vs) := (N1.ext Xh Z1).wipe vs
    by_cases hlt : i < its.length
    · refine .inr ?_
      obtain ⟨d, hd⟩ : ∃ d, its[i]? = some d := ⟨its[i], by simp [hlt]⟩
      obtain ⟨go, yl⟩ := wk.go i d ι' Sh Hh Zh Xh.le Xh.same kpP al hd
      have hdrop : its.drop i = d :: its.drop (i + 1) := by
        rw [List.drop_eq_getElem_cons hlt]
        have : its[i] = d := by
          have q := (List.getElem?_eq_some_iff.mp hd).2
          exact q
        rw [this]
      rw [hdrop] at ec
      unfold compF at ec
      rw [if_pos al] at ec
      split at ec
      · rename_i ρ1 eg
        obtain ⟨b, S3, e3, ec⟩ := zat ec
        refine ⟨go, fun H2 => (∃ (ι' : Nat → Addr) (Sh : Store) (acc : List V) (accD ds : List D), RSt W ι' H2 Sh ∧ Ext ι1 S1.length H1 ι' Sh.length H2 ∧ H2 L = some (.lst acc) ∧ Reps ι' Sh.length H2 accD acc ∧
          (∀ h, h < Sh.length → L ≠ ι' h) ∧ acc.length ≤ i + 1 ∧ compF tg ft fe src (wipeE ρ vs) (its.drop (i + 1)) Sh = some (ds, S') ∧ accD ++ ds = ys), fun H2 q => ⟨its.length - (i + 1), by omega, rfl, hlt, q⟩, fun x H2 y => ?_⟩
        obtain ⟨Zx, Xx, rx⟩ := yl x H2 y
        refine hg (wipe σ vs) H2 ι' (wipeE ρ vs) Sh H0 d x ρ1 Zx (NW.ext Xx Zh) rx eg _ fun σ2 N2 w2 => ⟨?_, ?_⟩
        · have w3 : wipe σ2 vs = wipe (wipe σ vs) vs := w2 vs hj
          rw [w3]
          have idem : ∀ us ws : List Nat, (∀ u ∈ us, u ∈ ws) → wipe (wipe σ us) ws = wipe σ ws := by
            intro us
            induction us with
            | nil => intro ws _; rfl
            | cons u us ih =>
              intro ws hw
              show wipe ((wipe σ us).set u none) ws = wipe σ ws
              rw [wipe_set (hw u List.mem_cons_self), ih ws fun u hu => hw u (List.mem_cons_of_mem _ hu)]
          exact idem vs vs fun _ h => h
        cases qb : b.bool with
        | none => rw [qb] at ec; cases ec
        | some k =>
          rw [qb] at ec
          have eb := bool_eq qb
          subst eb
          have XL : H2 L = some (.lst acc) := Xx.keep L _ hLh nh
          refine ht.then Zx N2 e3 fun H3 ι3 Z3 X3 N3 => ?_
          have nL2 : ∀ h, h < Sh.length → L ≠ ι' h := nh
          have XL3 : H3 L = some (.lst acc) := X3.keep L _ XL nL2
          have nL3 := X3.apart XL nL2
          have rh3 := (rh.ext Xx Zh).ext X3 Zx
          have Xb := (Xh.trans Xx Zh).trans X3 Zx
          cases k with
          | false =>
            simp only [Bool.false_eq_true, if_false]
            exact ⟨ι3, S3, acc, accD, ds, Z3, Xb, XL3, rh3, nL3, by omega, ec, ed⟩
          | true =>
            simp only [if_true]
            obtain ⟨x4, S4, e4, ec⟩ := zat ec
            cases qf : x4.flat with
            | none => rw [qf] at ec; cases ec
            | some y4 =>
              rw [qf] at ec
              obtain ⟨ys5, S5, e5, ec⟩ := zat ec
              cases ec
              refine he.then Z3 N3 e4 fun v4 H4 ι4 Z4 X4 N4 R4 => ?_
              have XL4 : H4 L = some (.lst acc) := X4.keep L _ XL3 nL3
              have nL4 := X4.apart XL3 nL3
              have r4 := flat_rep R4 qf
              have nt : ∀ us, (HO.lst acc) ≠ .tup us := fun us q => by cases q
              refine ⟨acc, XL4, by rw [← cap_eq]; omega, ι4, S4, acc ++ [v4], accD ++ [y4], ys5, Z4.updAt nL4 XL4 nt, (Xb.trans X4 Z3).updNew hL, upd_same, ?_, nL4, by rw [List.length_append]; simp; omega, e5, by rw [List.append_assoc]; exact ed⟩
              exact ((rh3.ext X4 Z3).updAt XL4 nt).append (.cons (r4.updAt XL4 nt) .nil)
      · cases ec
    · refine .inl ?_
      have ei : i = its.length := by omega
      subst ei
      rw [List.drop_length] at ec
      unfold compF at ec
      rw [if_pos al] at ec
      cases ec
      rw [List.append_nil] at ed
      subst ed
      refine ⟨wk.stop _ ι' _ Hh Zh Xh.le Xh.same kpP al (Nat.le_refl _), hQ _ Hh ι' Zh (X1.trans Xh Z1) ⟨L, acc, rfl, hLh, rh, hL0, nh⟩⟩
  · rw [if_neg hcap] at e; cases e
theorem zaN {wi : TI} {fi : Fi} {g : TG} {tg : Tg} {js vs : List Nat} {tt : TT} {ft : E} {te : TE} {fe : E} (hi : SimI W wi fi) (hg : SimG W g tg js) (hj : ∀ j ∈ js, j ∈ vs) (ht : SimT W tt ft) (he : SimE W te fe) :
    SimE W (tLc wi g tt te vs) (eComp fi tg vs ft fe) := sim_compJ hi.toJ hg hj ht he
end
end Ev
namespace Ev
open PySem L2
inductive Out where
  | next (ρ : Env) (S : Store)
  | ret (r : R) (S : Store)
  | brk (ρ : Env) (S : Store)
  | cont (ρ : Env) (S : Store)
abbrev Sx := Env → Store → Option Out
structure Bas where
  ι0 : Nat → Addr
  S0 : Store
  H0 : Hp
  ιw : Nat → Addr
  nw : Nat
  P : Hp
structure At (W : Wd) (B : Bas) (ι : Nat → Addr) (ρ : Env) (S : Store) (σ : St) (H : Hp) : Prop where
  Z : RSt W ι H S
  X : Ext B.ι0 B.S0.length B.H0 ι S.length H
  N : REnv W B.H0 ι S.length H ρ σ
  le : B.nw ≤ S.length
  sm : ∀ h, h < B.nw → ι h = B.ιw h
  kp : ∀ a o, B.P a = some o → H a = some o ∧ ∀ h, h < S.length → a ≠ ι h
  no : ∀ a o (i : Nat) s, B.P a = some o → ρ[i]? = some s → s.own = true → σ[i]? ≠ some (some (.ref a))
def Post (W : Wd) (B : Bas) (D : Ends) : Out → Prop
  | .next ρ' S' => ∀ σ' H' ι', At W B ι' ρ' S' σ' H' → D.nx σ' H'
  | .brk ρ' S' => ∀ σ' H' ι', At W B ι' ρ' S' σ' H' → D.bk σ' H'
  | .cont ρ' S' => ∀ σ' H' ι', At W B ι' ρ' S' σ' H' → D.ct σ' H'
  | .ret r S' => ∀ v H' ι', RSt W ι' H' S' → Ext B.ι0 B.S0.length B.H0 ι' S'.length H' → RR W B.H0 ι' S'.length H' r v → D.rt v H'
def SimS (W : Wd) (t : TS) (f : Sx) : Prop := ∀ (B : Bas) (σ : St) (H : Hp) (ι : Nat → Addr) (ρ : Env) (S : Store) (out : Out),
  At W B ι ρ S σ H → f ρ S = some out → ∀ D : Ends, Post W B D out → t D σ H
section
variable {W : Wd} {B : Bas} {ι ι' ι1 ι0 : Nat → Addr} {n n' : Nat} {H H' H0 H1 : Hp} {S S' S1 S0 : Store} {ρ : Env} {σ : St}
theorem At.ext (A : At W B ι ρ S σ H) (X1 : Ext ι S.length H ι1 S1.length H1) (Z1 : RSt W ι1 H1 S1) : At W B ι1 ρ S1 σ H1 where
  Z := Z1
  X := A.X.trans X1 A.Z
  N := A.N.ext X1 A.Z
  le := Nat.le_trans A.le X1.le
  sm := fun h hh => (X1.same h (Nat.lt_of_lt_of_le hh A.le)).trans (A.sm h hh)
  kp := fun a o q => ⟨X1.keep a o (A.kp a o q).1 (A.kp a o q).2, X1.apart (A.kp a o q).1 (A.kp a o q).2⟩
  no := A.no
theorem At.slots {ρ' : Env} {σ' : St} (A : At W B ι ρ S σ H) (N' : REnv W B.H0 ι S.length H ρ' σ') (no' : ∀ a o (i : Nat) s, B.P a = some o → ρ'[i]? = some s → s.own = true → σ'[i]? ≠ some (some (.ref a))) : At W B ι ρ' S σ' H :=
  ⟨A.Z, A.X, N', A.le, A.sm, A.kp, no'⟩
theorem At.setV (A : At W B ι ρ S σ H) (i : Nat) {d : D} {v : V} (r : Rep ι S.length H d v) : At W B ι (ρ.set i (.v d)) S (σ.set i (some v)) H :=
  A.slots (A.N.setV i r) fun a o j s q e ho es => by
    rcases zaB e with ⟨_, rfl⟩ | ⟨hj, e⟩
    · cases ho
    · rcases zaB es with ⟨z, _⟩ | ⟨_, es⟩
      · exact hj z
      · exact A.no a o j s q e ho es
def sNil : Sx := fun ρ S => some (.next ρ S)
def sFail : Sx := fun _ _ => none
def sSeq (f g : Sx) : Sx := fun ρ S => match f ρ S with
  | some (.next ρ1 S1) => g ρ1 S1
  | o => o
theorem zap : SimS W tNext sNil := by
  intro B σ H ι ρ S out A e D hD
  cases e
  exact hD σ H ι A
theorem simS_fail {t : TS} : SimS W t sFail := by
  intro B σ H ι ρ S out A e D hD
  cases e
theorem zaf {t u : TS} {f g : Sx} (hf : SimS W t f) (hg : SimS W u g) : SimS W (tSeq t u) (sSeq f g) := by
  intro B σ H ι ρ S out A e D hD
  unfold sSeq at e
  cases q : f ρ S with
  | none => rw [q] at e; cases e
  | some o =>
    refine hf B σ H ι ρ S o A q _ ?_
    rw [q] at e
    cases o with
    | next ρ1 S1 =>
      intro σ' H' ι' A'
      exact hg B σ' H' ι' ρ1 S1 out A' e D hD
    | ret r S1 => cases e; exact hD
    | brk ρ1 S1 => cases e; exact hD
    | cont ρ1 S1 => cases e; exact hD
def sExpr (fe : E) : Sx := fun ρ S => bnd (fe ρ S) fun _ S1 => some (.next ρ S1)
theorem simS_expr {t : TE} {fe : E} (h : SimE W t fe) : SimS W (tDrop t) (sExpr fe) := by
  intro B σ H ι ρ S out A e D hD
  obtain ⟨x, S1, e1, e⟩ := zat e
  cases e
  exact h.then A.Z A.N e1 fun v1 H1 ι1 Z1 X1 N1 R1 => hD σ H1 ι1 (A.ext X1 Z1)
def R.may : R → Bool
  | .v _ => true
  | .l _ => true
  | .d _ _ => true
  | .pr x y => x.may && y.may
  | _ => false
def sRet (fe : E) : Sx := fun ρ S => bnd (fe ρ S) fun x S1 => if x.may then some (.ret x S1) else none
theorem zao {t : TE} {fe : E} (h : SimE W t fe) : SimS W (tRet t) (sRet fe) := by
  intro B σ H ι ρ S out A e D hD
  obtain ⟨x, S1, e1, e⟩ := zat e
  split at e
  · cases e
    exact h.then A.Z A.N e1 fun v1 H1 ι1 Z1 X1 N1 R1 => hD v1 H1 ι1 Z1 (A.X.trans X1 A.Z) (R1.older (fun a q => A.X.dom A.Z q) _ _)
  · cases e
def sRetN : Sx := fun _ S => some (.ret (.v .non) S)
def Sl.out : Sl → Option R
  | .v x => some (.v x)
  | .l xs => some (.l xs)
  | .d k kvs => some (.d k kvs)
  | _ => none
theorem slot_out {i : Nat} {s : Sl} {r : R} (N : REnv W H0 ι n H ρ σ) (e : ρ[i]? = some s) (eo : s.out = some r) : ∃ v, σ[i]? = some (some v) ∧ RR W H0 ι n H r v := by
  have hi : i < σ.length := by
    have := (List.getElem?_eq_some_iff.mp e).1
    rw [N.len] at this
    exact this
  have qs : σ[i]? = some σ[i] := by simp [hi]
  have ok := N.at_ i s _ e qs
  cases s with
  | v d => cases eo; obtain ⟨v, ev, rv⟩ := ok; exact ⟨v, by rw [qs, ev], rv⟩
  | l xs => cases eo; obtain ⟨a, vs, ev, h⟩ := ok; exact ⟨.ref a, by rw [qs, ev], a, vs, rfl, h⟩
  | d k kvs => cases eo; obtain ⟨a, ev, h⟩ := ok; exact ⟨.ref a, by rw [qs, ev], a, rfl, h⟩
  | _ => cases eo
def sRetVar (i : Nat) : Sx := fun ρ S => (ρ[i]?.bind Sl.out).map fun r => .ret r S
theorem simS_retVar {i : Nat} : SimS W (tRet (tVar i)) (sRetVar i) := by
  intro B σ H ι ρ S out A e D hD
  unfold sRetVar at e
  cases q : ρ[i]? with
  | none => rw [q] at e; cases e
  | some s =>
    rw [q] at e
    simp only [Option.bind_some] at e
    cases q2 : s.out with
    | none => rw [q2] at e; cases e
    | some r =>
      rw [q2] at e
      cases e
      obtain ⟨v, e1, r1⟩ := slot_out A.N q q2
      exact ⟨v, e1, hD v H ι A.Z A.X r1⟩
def slotOf : R → Option Sl
  | .v d => some (.v d)
  | .l xs => some (.l xs)
  | .d k kvs => some (.d k kvs)
  | _ => none
theorem lend_there {j : Nat} {t : Sl} {a : Addr} (N : REnv W H0 ι n H ρ σ) (e : ρ[j]? = some t) (hl : t.lends = true) (es : σ[j]? = some (some (.ref a))) : ∃ o, H a = some o := by
  have ok := N.at_ j t _ e es
  cases t with
  | l xs => obtain ⟨b, vs, e1, e2, _⟩ := ok; cases e1; exact ⟨_, e2⟩
  | b xs => obtain ⟨b, vs, e1, e2, _⟩ := ok; cases e1; exact ⟨_, e2⟩
  | d k kvs => obtain ⟨b, e1, e2, _⟩ := ok; cases e1; exact e2.there
  | _ => cases hl
theorem own_lends {t : Sl} (h : t.own = true) : t.lends = true := by
  cases t <;> first | rfl | cases h
theorem REnv.put {Hs : Hp} {r : R} {s : Sl} {v : V} {i : Nat} (N : REnv W H0 ι n H ρ σ) (hr : RR W Hs ι n H r v) (e : slotOf r = some s) (hd : ∀ a, Hs a = none → H0 a = none)
    (hy : ∀ (j : Nat) t a, ρ[j]? = some t → t.lends = true → σ[j]? = some (some (.ref a)) → ∃ o, Hs a = some o) : REnv W H0 ι n H (ρ.set i s) (σ.set i (some v)) := by
  cases r with
  | v d => cases e; exact N.setV i hr
  | l xs =>
    cases e
    obtain ⟨a, vs, rfl, h1, h2, h3, h4⟩ := hr
    refine N.setS i ⟨a, vs, rfl, h1, h2, hd a h3, h4⟩ (fun j t b hj ej _ hl eb es => ?_) (fun j t b hj ej ho _ eb es => ?_)
    · cases eb
      obtain ⟨o, q⟩ := hy j t a ej hl es
      rw [h3] at q; cases q
    · cases eb
      obtain ⟨o, q⟩ := hy j t a ej (own_lends ho) es
      rw [h3] at q; cases q
  | d k kvs =>
    cases e
    obtain ⟨a, rfl, h1, h3, h4⟩ := hr
    refine N.setS i ⟨a, rfl, h1, hd a h3, h4⟩ (fun j t b hj ej _ hl eb es => ?_) (fun j t b hj ej ho _ eb es => ?_)
    · cases eb
      obtain ⟨o, q⟩ := hy j t a ej hl es
      rw [h3] at q; cases q
    · cases eb
      obtain ⟨o, q⟩ := hy j t a ej (own_lends ho) es
      rw [h3] at q; cases q
  | _ => cases e
def sAsg (i : Nat) (fe : E) : Sx := fun ρ S => bnd (fe ρ S) fun x S1 => (slotOf x).map fun s => .next (ρ.set i s) S1
theorem At.put {r : R} {s : Sl} {v : V} {i : Nat} (A : At W B ι ρ S σ H) (X1 : Ext ι S.length H ι1 S1.length H1) (Z1 : RSt W ι1 H1 S1) (hr : RR W H ι1 S1.length H1 r v) (e : slotOf r = some s) : At W B ι1 (ρ.set i s) S1 (σ.set i (some v)) H1 := by
  have A1 := A.ext X1 Z1
  refine A1.slots (A1.N.put hr e (fun a qa => A.X.dom A.Z qa) fun j t a ej hl es => lend_there A.N ej hl es) fun a o j t q ej ho es => ?_
  rcases zaB ej with ⟨rfl, rfl⟩ | ⟨hj, ej⟩
  · rcases zaB es with ⟨_, es⟩ | ⟨z, _⟩
    · cases es
      have h0 := (A.kp a o q).1
      cases r with
      | l xs => obtain ⟨b, vs, e1, _, _, e3, _⟩ := hr; cases e1; rw [e3] at h0; cases h0
      | d k kvs => obtain ⟨b, e1, _, e3, _⟩ := hr; cases e1; rw [e3] at h0; cases h0
      | v d => cases e; cases ho
      | _ => cases e
    · exact z rfl
  · rcases zaB es with ⟨z, _⟩ | ⟨_, es⟩
    · exact hj z
    · exact A.no a o j t q ej ho es
theorem zar {t : TE} {fe : E} {i : Nat} (h : SimE W t fe) : SimS W (tAsg t (gName i)) (sAsg i fe) := by
  intro B σ H ι ρ S out A e D hD
  obtain ⟨x, S1, e1, e⟩ := zat e
  cases q : slotOf x with
  | none => rw [q] at e; cases e
  | some s =>
    rw [q] at e
    cases e
    exact h.then A.Z A.N e1 fun v1 H1 ι1 Z1 X1 N1 R1 => hD _ H1 ι1 (A.put X1 Z1 R1 q)
def gUnp (K : PySem.W.Frag) (is : List Nat) : TG := fun v σ H Q => gTup K is.length (gNames is) v σ H Q ∨ gUnl K is.length (gNames is) v σ H Q
theorem PG.or {X : Cx} {tg : Expr} {a b : TG} (h : PG X tg a) (h' : PG X tg b) : PG X tg (fun v σ H Q => a v σ H Q ∨ b v σ H Q) :=
  ⟨fun pins s σ H v u Q I r q => q.elim (h.run pins s σ H v u Q I r) (h'.run pins s σ H v u Q I r)⟩
def unpack (is : List Nat) (x : R) (S : Store) (ρ : Env) : Option Env := match x with
  | .pr a b => (match is, slotOf a, slotOf b with
    | [i, j], some s, some t => if i ≠ j then some ((ρ.set i s).set j t) else none
    | _, _, _ => none)
  | x => (x.seq S).bind fun ds => setAll is ds ρ
def sUnp (is : List Nat) (fe : E) : Sx := fun ρ S => bnd (fe ρ S) fun x S1 => (unpack is x S1 ρ).map fun ρ1 => .next ρ1 S1
theorem setAll_own : ∀ {is : List Nat} {ds : List D} {ρ ρ' : Env} {j : Nat} {t : Sl}, setAll is ds ρ = some ρ' → ρ'[j]? = some t → t.own = true → ρ[j]? = some t ∧ j ∉ is
  | [], [], ρ, ρ', j, t, h, e, ho => by cases h; exact ⟨e, by simp⟩
  | [], _ :: _, _, _, _, _, h, _, _ => by cases h
  | _ :: _, [], _, _, _, _, h, _, _ => by cases h
  | i :: is, d :: ds, ρ, ρ', j, t, h, e, ho => by
    obtain ⟨e1, e2⟩ := setAll_own (is := is) (ds := ds) h e ho
    rcases zaB e1 with ⟨_, rfl⟩ | ⟨hj, e1⟩
    · cases ho
    · exact ⟨e1, fun z => (List.mem_cons.mp z).elim hj e2⟩
theorem At.names : ∀ {is : List Nat} {σ : St} {ρ ρ' : Env} {ds : List D} {vs : List V}, At W B ι ρ S σ H → Reps ι S.length H ds vs → setAll is ds ρ = some ρ' → ∀ Q : St → Hp → Prop,
    (∀ σ', At W B ι ρ' S σ' H → (∀ us : List Nat, (∀ j ∈ is, j ∈ us) → wipe σ' us = wipe σ us) → Q σ' H) → gNames is vs σ H Q
  | [], σ, ρ, ρ', ds, vs, A, r, e, Q, hQ => by
    cases ds with
    | nil => cases e; cases r; exact ⟨rfl, hQ _ A fun _ _ => rfl⟩
    | cons d ds => cases e
  | i :: is, σ, ρ, ρ', ds, vs, A, r, e, Q, hQ => by
    cases ds with
    | nil => cases e
    | cons d ds =>
      cases r with
      | cons r1 r2 =>
        refine ⟨_, _, rfl, At.names (A.setV i r1) r2 e Q fun σ' N' h => hQ σ' N' fun us hu => ?_⟩
        rw [h us fun j hj => hu j (List.mem_cons_of_mem _ hj)]
        exact wipe_set (hu i List.mem_cons_self)
theorem simS_unp {t : TE} {fe : E} {is : List Nat} {K : PySem.W.Frag} (h : SimE W t fe) : SimS W (tAsg t (gUnp K is)) (sUnp is fe) := by
  intro B σ H ι ρ S out A e D hD
  obtain ⟨x, S1, e1, e⟩ := zat e
  cases q : unpack is x S1 ρ with
  | none => rw [q] at e; cases e
  | some ρ1 =>
    rw [q] at e
    cases e
    refine h.then A.Z A.N e1 fun v1 H1 ι1 Z1 X1 N1 R1 => ?_
    have A1 := A.ext X1 Z1
    have seq : ∀ ds, x.seq S1 = some ds → setAll is ds ρ = some ρ1 → gUnp K is v1 σ H1 D.nx := fun ds q1 q2 => by
      obtain ⟨a, vs, rfl, h1, h2⟩ := seq_rep Z1 R1 q1
      have fin := At.names A1 h2 q2 D.nx fun σ' A' _ => hD σ' H1 ι1 A'
      have hl : vs.length = is.length := by rw [← h2.length, setAll_len q2]
      rcases h1 with h1 | h1
      · exact .inr ⟨a, vs, rfl, .inl h1, hl, fin⟩
      · exact .inl ⟨a, vs, rfl, .of h1, hl, fin⟩
    unfold unpack at q
    split at q
    · rename_i a b
      split at q
      · rename_i i j s t qa qb
        split at q
        · rename_i hij
          cases q
          obtain ⟨p, x, y, rfl, h1, h2, h3, h4⟩ := R1
          refine .inl ⟨p, [x, y], rfl, .of h1, rfl, x, [y], rfl, y, [], rfl, rfl, hD _ H1 ι1 ?_⟩
          have A2 : At W B ι1 (ρ.set i s) S1 (σ.set i (some x)) H1 := A.put X1 Z1 h2 qa
          have hy0 : ∀ (j : Nat) t a, ρ[j]? = some t → t.lends = true → σ[j]? = some (some (.ref a)) → ∃ o, H a = some o := fun j t a ej hl es => lend_there A.N ej hl es
          have ap : ∀ (c : Addr), y = .ref c → H c = none → (∃ d, b = .v d) ∨ ∀ (k : Nat) t e, k ≠ j → (ρ.set i s)[k]? = some t → t.lends = true → e = c → (σ.set i (some x))[k]? ≠ some (some (.ref e)) := fun c ec k3 => by
            by_cases hb : ∃ d, b = .v d
            · exact .inl hb
            · refine .inr fun k t e hk ek hl ee es => ?_
              subst ee
              rcases zaB ek with ⟨rfl, rfl⟩ | ⟨hki, ek⟩
              · rcases zaB es with ⟨_, es⟩ | ⟨q, _⟩
                · cases es
                  rcases h4 ec.symm with ⟨d, rfl⟩ | q
                  · cases qa; cases hl
                  · exact hb q
                · exact q rfl
              · rcases zaB es with ⟨q, _⟩ | ⟨_, es⟩
                · exact hki q
                · obtain ⟨o, q⟩ := hy0 k t e ek hl es
                  rw [k3] at q; cases q
          have fin : ∀ (c : Addr), y = .ref c → H c = none → SlOk W B.H0 ι1 S1.length H1 (some y) t → (∀ d, b ≠ .v d) → At W B ι1 ((ρ.set i s).set j t) S1 ((σ.set i (some x)).set j (some y)) H1 := fun c ec k3 ok nb => by
            have apc := (ap c ec k3).resolve_left fun ⟨d, q⟩ => nb d q
            refine A2.slots (A2.N.setS j ok (fun k t e hk ek _ hl ee => apc k t e hk ek hl ?_) (fun k t e hk ek ho _ ee => apc k t e hk ek (own_lends ho) ?_)) fun a o k u q ek ho es => ?_
            · rw [ec] at ee; cases ee; rfl
            · rw [ec] at ee; cases ee; rfl
            · rcases zaB ek with ⟨rfl, rfl⟩ | ⟨hk, ek⟩
              · rcases zaB es with ⟨_, es⟩ | ⟨z, _⟩
                · rw [ec] at es
                  cases es
                  have h0 := (A.kp _ o q).1
                  rw [k3] at h0
                  cases h0
                · exact z rfl
              · rcases zaB es with ⟨z, _⟩ | ⟨_, es⟩
                · exact hk z
                · exact A2.no a o k u q ek ho es
          cases b with
          | v d => cases qb; exact A2.setV j h3
          | l ys =>
            cases qb
            obtain ⟨c, ws, rfl, k1, k2, k3, k4⟩ := h3
            exact fin c rfl k3 ⟨c, ws, rfl, k1, k2, A.X.dom A.Z k3, k4⟩ fun d q => by cases q
          | d k' kvs =>
            cases qb
            obtain ⟨c, rfl, k1, k3, k4⟩ := h3
            exact fin c rfl k3 ⟨c, rfl, k1, A.X.dom A.Z k3, k4⟩ fun d q => by cases q
          | _ => cases qb
        · cases q
      · cases q
    · cases q1 : x.seq S1 with
      | none => rw [q1] at q; cases q
      | some ds => rw [q1] at q; exact seq ds q1 q
def sPar (i j : Nat) (fa fb : E) : Sx := fun ρ S => bnd (fa ρ S) fun x S1 => bnd (fb ρ S1) fun y S2 => match x, y with
  | .v a, .v b => some (.next ((ρ.set i (.v a)).set j (.v b)) S2)
  | _, _ => none
def sIf (ft : E) (fa fb : Sx) : Sx := fun ρ S => bnd (ft ρ S) fun x S1 => match x.bool with
  | some true => fa ρ S1
  | some false => fb ρ S1
  | none => none
theorem zau {tt : TT} {ft : E} {ta tb : TS} {fa fb : Sx} (ht : SimT W tt ft) (ha : SimS W ta fa) (hb : SimS W tb fb) : SimS W (tIfS tt ta tb) (sIf ft fa fb) := by
  intro B σ H ι ρ S out A e D hD
  obtain ⟨x, S1, e1, e⟩ := zat e
  cases q : x.bool with
  | none => rw [q] at e; cases e
  | some b =>
    rw [q] at e
    have ex := bool_eq q
    subst ex
    refine ht.then A.Z A.N e1 fun H1 ι1 Z1 X1 N1 => ?_
    cases b with
    | true => exact ha B σ H1 ι1 ρ S1 out (A.ext X1 Z1) e D hD
    | false => exact hb B σ H1 ι1 ρ S1 out (A.ext X1 Z1) e D hD
def loopF (tg : Tg) (body : Sx) (src : Src) : List D → Env → Store → Option Out
  | [], ρ, S => if src.alive S then some (.next ρ S) else none
  | d :: r, ρ, S => if src.alive S then (match tg d ρ with
    | some ρ1 => (match body ρ1 S with
      | some (.next ρ2 S2) => loopF tg body src r ρ2 S2
      | some (.cont ρ2 S2) => loopF tg body src r ρ2 S2
      | some (.brk ρ2 S2) => some (.next ρ2 S2)
      | some (.ret x S2) => some (.ret x S2)
      | none => none)
    | none => none) else none
theorem loopF_alive {tg : Tg} {body : Sx} {src : Src} {its : List D} {r : Out} (h : loopF tg body src its ρ S = some r) : src.alive S = true := by
  cases its with
  | nil =>
    unfold loopF at h
    split at h
    · assumption
    · cases h
  | cons d ds =>
    unfold loopF at h
    split at h
    · assumption
    · cases h
def sFor (fi : Fi) (tg : Tg) (body : Sx) : Sx := fun ρ S => bnd (fi ρ S) fun p S1 => if p.2.2 then loopF tg body p.2.1 p.1 ρ S1 else none
theorem simG_at {g : TG} {tg : Tg} {js : List Nat} {d : D} {v : V} {ρ' : Env} (hg : SimG W g tg js) (ho : ∀ (ρ ρ' : Env) d (j : Nat) t, tg d ρ = some ρ' → ρ'[j]? = some t → t.own = true → ρ[j]? = some t ∧ j ∉ js)
    (hw : ∀ {σ σ' : St} (j : Nat), (∀ vs : List Nat, (∀ k ∈ js, k ∈ vs) → wipe σ' vs = wipe σ vs) → j ∉ js → σ'[j]? = σ[j]?)
    (A : At W B ι ρ S σ H) (r : Rep ι S.length H d v) (e : tg d ρ = some ρ') {Q : St → Hp → Prop} (hQ : ∀ σ', At W B ι ρ' S σ' H → Q σ' H) : g v σ H Q :=
  hg σ H ι ρ S B.H0 d v ρ' A.Z A.N r e Q fun σ' N' w => hQ σ' (A.slots N' fun a o j t q ej hown es => by
    obtain ⟨e1, e2⟩ := ho ρ ρ' d j t e ej hown
    rw [hw j w e2] at es
    exact A.no a o j t q e1 hown es)
structure TgOk (W : Wd) (g : TG) (tg : Tg) (js : List Nat) : Prop where
  sim : SimG W g tg js
  own : ∀ (ρ ρ' : Env) d (j : Nat) t, tg d ρ = some ρ' → ρ'[j]? = some t → t.own = true → ρ[j]? = some t ∧ j ∉ js
theorem wipe_eq {σ σ' : St} {js : List Nat} (j : Nat) (h : ∀ vs : List Nat, (∀ k ∈ js, k ∈ vs) → wipe σ' vs = wipe σ vs) (hj : j ∉ js) : σ'[j]? = σ[j]? := by
  have q := congrArg (fun l : St => l[j]?) (h js fun _ z => z)
  simp only [L2.wipe_out hj] at q
  exact q
theorem tg_name {i : Nat} : TgOk W (gName i) (tgName i) [i] := ⟨zaF, fun ρ ρ' d j t e ej ho => by
  cases e
  rcases zaB ej with ⟨_, rfl⟩ | ⟨hj, ej⟩
  · cases ho
  · exact ⟨ej, by simpa using hj⟩⟩
theorem tg_tup {K : PySem.W.Frag} {is : List Nat} : TgOk W (gTup K is.length (gNames is)) (tgTup is) is := ⟨simG_tup, fun ρ ρ' d j t e ej ho => by
  unfold tgTup at e
  split at e
  · exact setAll_own e ej ho
  · cases e⟩
theorem zbD {wi : TI} {fi : Fi} {g : TG} {tg : Tg} {js : List Nat} {tb : TS} {body : Sx} (hi : SimI W wi fi) (hg : TgOk W g tg js) (hb : SimS W tb body) : SimS W (tFor wi g tb) (sFor fi tg body) := by
  intro B σ H ι ρ S out A e D hD
  obtain ⟨⟨its, src, ok⟩, S1, e1, e⟩ := zat e
  simp only at e
  by_cases hok : ok = true
  · rw [if_pos hok] at e
    refine hi σ H ι ρ S B.H0 its src ok S1 A.Z A.N e1 _ fun J H1 ι1 P Z1 X1 hP hno wk => ?_
    have A1 := A.ext X1 Z1
    let PB : Hp := fun a => match P a with
      | some o => some o
      | none => B.P a
    have hPB : ∀ a o, PB a = some o → P a = some o ∨ B.P a = some o := fun a o q => by
      show P a = some o ∨ B.P a = some o
      cases qa : P a with
      | some u =>
        have q' : (match P a with | some o => some o | none => B.P a) = some o := q
        rw [qa] at q'
        exact .inl q'
      | none =>
        have q' : (match P a with | some o => some o | none => B.P a) = some o := q
        rw [qa] at q'
        exact .inr q'
    have hPB2 : ∀ a o, P a = some o → PB a = some o := fun a o q => by
      show (match P a with | some o => some o | none => B.P a) = some o
      rw [q]
    have hPB3 : ∀ a o, B.P a = some o → PB a = some o := fun a o q => by
      show (match P a with | some o => some o | none => B.P a) = some o
      cases qa : P a with
      | none => exact q
      | some u =>
        have h1 := (hP a u qa).1
        have h2 := (A1.kp a o q).1
        rw [h1] at h2
        exact h2
    let B2 : Bas := { B with ιw := ι1, nw := S1.length, P := PB }
    have A2 : At W B2 ι1 ρ S1 σ H1 := ⟨A1.Z, A1.X, A1.N, Nat.le_refl _, fun _ _ => rfl, fun a o q => (hPB a o q).elim (hP a o) (A1.kp a o), fun a o i s q ei ho => (hPB a o q).elim (fun z => hno hok a o i s z ei ho) fun z => A1.no a o i s z ei ho⟩
    have back : ∀ {ι' : Nat → Addr} {ρ' : Env} {S' : Store} {σ' : St} {H' : Hp}, At W B2 ι' ρ' S' σ' H' → At W B ι' ρ' S' σ' H' := fun A' => ⟨A'.Z, A'.X, A'.N, Nat.le_trans A1.le A'.le, fun h hh => (A'.sm h (Nat.lt_of_lt_of_le hh A1.le)).trans (A1.sm h hh), fun a o q => A'.kp a o (hPB3 a o q), fun a o i s q => A'.no a o i s (hPB3 a o q)⟩
    refine ⟨fun i m σh Hh => m = its.length - i ∧ i ≤ its.length ∧ ∃ (ι' : Nat → Addr) (ρh : Env) (Sh : Store), At W B2 ι' ρh Sh σh Hh ∧ loopF tg body src (its.drop i) ρh Sh = some out,
      ⟨its.length, by simp, Nat.zero_le _, ι1, ρ, S1, A2, by simpa using e⟩, ?_⟩
    rintro i m σh Hh ⟨rfl, hil, ι', ρh, Sh, Ah, el⟩
    have al := loopF_alive el
    have kpP : ∀ a o, P a = some o → Hh a = some o := fun a o q => (Ah.kp a o (hPB2 a o q)).1
    by_cases hlt : i < its.length
    · refine .inr ?_
      obtain ⟨d, hd⟩ : ∃ d, its[i]? = some d := ⟨its[i], by simp [hlt]⟩
      obtain ⟨go, yl⟩ := wk.go i d ι' Sh Hh Ah.Z Ah.le Ah.sm kpP al hd
      have hdrop : its.drop i = d :: its.drop (i + 1) := by
        rw [List.drop_eq_getElem_cons hlt, (List.getElem?_eq_some_iff.mp hd).2]
      rw [hdrop] at el
      unfold loopF at el
      rw [if_pos al] at el
      split at el
      · rename_i ρ1 eg
        refine ⟨go, fun σ2 H2 => ∃ (ι' : Nat → Addr) (ρh : Env) (Sh : Store), At W B2 ι' ρh Sh σ2 H2 ∧ loopF tg body src (its.drop (i + 1)) ρh Sh = some out,
          fun σ2 H2 q => ⟨its.length - (i + 1), by omega, rfl, hlt, q⟩, fun x H2 y => ?_⟩
        obtain ⟨Zx, Xx, rx⟩ := yl x H2 y
        have Ax := Ah.ext Xx Zx
        refine simG_at hg.sim hg.own (fun j w hj => wipe_eq j w hj) Ax rx eg fun σ2 A3 => ?_
        cases qb : body ρ1 Sh with
        | none => rw [qb] at el; cases el
        | some o =>
          rw [qb] at el
          refine hb B2 σ2 H2 ι' ρ1 Sh o A3 qb _ ?_
          cases o with
          | next ρ2 S2 => exact fun σ' H' ι2 A' => ⟨ι2, ρ2, S2, A', el⟩
          | cont ρ2 S2 => exact fun σ' H' ι2 A' => ⟨ι2, ρ2, S2, A', el⟩
          | brk ρ2 S2 => cases el; exact fun σ' H' ι2 A' => hD σ' H' ι2 (back A')
          | ret z S2 => cases el; exact hD
      · cases el
    · refine .inl ?_
      have ei : i = its.length := by omega
      subst ei
      rw [List.drop_length] at el
      unfold loopF at el
      rw [if_pos al] at el
      cases el
      exact ⟨wk.stop _ ι' Sh Hh Ah.Z Ah.le Ah.sm kpP al (Nat.le_refl _), hD σh Hh ι' (back Ah)⟩
  · rw [if_neg hok] at e; cases e
def lend (i : Nat) (ρ : Env) : Env := match ρ[i]? with
  | some (.l xs) => ρ.set i (.b xs)
  | _ => ρ
def sForV (i : Nat) (fi : Fi) (tg : Tg) (body : Sx) : Sx := fun ρ S => sFor fi tg body (lend i ρ) S
def whileF (ft : E) (body : Sx) : Nat → Env → Store → Option Out
  | 0, _, _ => none
  | m + 1, ρ, S => bnd (ft ρ S) fun x S1 => match x.bool with
    | some true => (match body ρ S1 with
      | some (.next ρ2 S2) => whileF ft body m ρ2 S2
      | some (.cont ρ2 S2) => whileF ft body m ρ2 S2
      | some (.brk ρ2 S2) => some (.next ρ2 S2)
      | some (.ret z S2) => some (.ret z S2)
      | none => none)
    | some false => some (.next ρ S1)
    | none => none
theorem simS_while {tt : TT} {ft : E} {tb : TS} {body : Sx} {m : Nat} (ht : SimT W tt ft) (hb : SimS W tb body) : SimS W (tWhile tt tb) (whileF ft body m) := by
  intro B σ H ι ρ S out A e D hD
  refine ⟨fun k σh Hh => ∃ (ι' : Nat → Addr) (ρh : Env) (Sh : Store), At W B ι' ρh Sh σh Hh ∧ whileF ft body k ρh Sh = some out, ⟨m, ι, ρ, S, A, e⟩, ?_⟩
  rintro k σh Hh ⟨ι', ρh, Sh, Ah, el⟩
  cases k with
  | zero => cases el
  | succ k =>
    obtain ⟨x, S1, e1, el⟩ := zat el
    cases q : x.bool with
    | none => rw [q] at el; cases el
    | some b =>
      rw [q] at el
      have ex := bool_eq q
      subst ex
      refine ht.then Ah.Z Ah.N e1 fun H1 ι1 Z1 X1 N1 => ?_
      have A1 := Ah.ext X1 Z1
      cases b with
      | false =>
        cases el
        simp only [Bool.false_eq_true, if_false]
        exact hD σh H1 ι1 A1
      | true =>
        simp only [if_true]
        refine ⟨fun σ2 H2 => ∃ (ι' : Nat → Addr) (ρh : Env) (Sh : Store), At W B ι' ρh Sh σ2 H2 ∧ whileF ft body k ρh Sh = some out, fun σ2 H2 q => ⟨k, Nat.lt_succ_self _, q⟩, ?_⟩
        simp only at el
        cases qb : body ρh S1 with
        | none => rw [qb] at el; cases el
        | some o =>
          rw [qb] at el
          refine hb B σh H1 ι1 ρh S1 o A1 qb _ ?_
          cases o with
          | next ρ2 S2 => exact fun σ' H' ι2 A' => ⟨ι2, ρ2, S2, A', el⟩
          | cont ρ2 S2 => exact fun σ' H' ι2 A' => ⟨ι2, ρ2, S2, A', el⟩
          | brk ρ2 S2 => cases el; exact fun σ' H' ι2 A' => hD σ' H' ι2 A'
          | ret z S2 => cases el; exact hD
end
end Ev
namespace Ev
open PySem L2
section
variable {W : Wd} {B : Bas} {ι ι' ι1 ι0 : Nat → Addr} {n n' : Nat} {H H' H0 H1 : Hp} {S S' S1 S0 : Store} {ρ : Env} {σ : St}
theorem RSt.keepT {h : Nat} {o' : HO} (Z : RSt W ι H S) (hh : h < S.length) : ∀ b vs, H b = some (.tup vs) → (L2.upd H (ι h) o') b = some (.tup vs) := fun b vs q => by
  rw [L2.upd_ne (Z.tup_ne q h hh)]
  exact q
theorem RSt.setO {h : Nat} {o' : HO} {ob : Ob} (Z : RSt W ι H S) (hh : h < S.length) (new : RepO W ι S.length (L2.upd H (ι h) o') (ι h) ob) : RSt W ι (L2.upd H (ι h) o') (S.set h ob) := by
  refine ⟨fun k u e => ?_, fun i j hi hj => ?_⟩
  · rw [List.length_set]
    rcases zaB e with ⟨rfl, rfl⟩ | ⟨hk, e⟩
    · exact new
    · have hk2 := (List.getElem?_eq_some_iff.mp e).1
      exact (Z.at_ k u e).mono (Nat.le_refl _) (fun _ _ => rfl) (Z.keepT hh) fun w q => by
        rw [L2.upd_ne fun z => hk (Z.inj k h hk2 hh z)]
        exact q
  · rw [List.length_set] at hi hj
    exact Z.inj i j hi hj
theorem Ext.setO {h : Nat} {o' : HO} (hh : h < n) (hm : Mut (H (ι h))) : Ext ι n H ι n (L2.upd H (ι h) o') :=
  ⟨Nat.le_refl _, fun _ _ => rfl, fun a o e ha => by rw [L2.upd_ne (ha h hh)]; exact e, fun k h1 h2 => absurd h2 (by omega), fun a o u e => by
    by_cases z : a = ι h
    · subst z
      rw [e] at hm
      exact hm.elim
    · rw [L2.upd_ne z]; exact e⟩
theorem mut_lst {a : Addr} {vs : List V} (h : H a = some (.lst vs)) : Mut (H a) := by rw [h]; trivial
theorem Rep.setO {h : Nat} {o' : HO} {d : D} {v : V} (r : Rep ι S.length H d v) (Z : RSt W ι H S) (hh : h < S.length) : Rep ι S.length (L2.upd H (ι h) o') d v := Rep.mono (Nat.le_refl _) (fun _ _ => rfl) (Z.keepT hh) _ _ r
theorem Reps.setO {h : Nat} {o' : HO} {d : List D} {v : List V} (r : Reps ι S.length H d v) (Z : RSt W ι H S) (hh : h < S.length) : Reps ι S.length (L2.upd H (ι h) o') d v := Reps.mono (Nat.le_refl _) (fun _ _ => rfl) (Z.keepT hh) _ _ r
theorem At.mut {i : Nat} {s s' : Sl} {a : Addr} {o' : HO} (A : At W B ι ρ S σ H) (e : ρ[i]? = some s) (ho : s.own = true) (es : σ[i]? = some (some (.ref a))) (ho' : s'.own = true)
    (ok' : (∀ b vs, H b = some (.tup vs) → (L2.upd H a o') b = some (.tup vs)) → SlOk W B.H0 ι S.length (L2.upd H a o') (some (.ref a)) s') : At W B ι (ρ.set i s') S σ (L2.upd H a o') := by
  obtain ⟨u, hu⟩ := own_there A.N e ho es
  have nt : ∀ vs, u ≠ .tup vs := fun vs z => own_tup A.N e ho es (by rw [hu, z])
  have hb : ∀ h, h < S.length → a ≠ ι h := by
    have ok := A.N.at_ i s _ e es
    cases s with
    | l xs => obtain ⟨b, vs, e1, _, _, _, e5⟩ := ok; cases e1; exact e5
    | d k kvs => obtain ⟨b, e1, _, _, e5⟩ := ok; cases e1; exact e5
    | _ => cases ho
  have h0 : B.H0 a = none := by
    have ok := A.N.at_ i s _ e es
    cases s with
    | l xs => obtain ⟨b, vs, e1, _, _, e4, _⟩ := ok; cases e1; exact e4
    | d k kvs => obtain ⟨b, e1, _, e4, _⟩ := ok; cases e1; exact e4
    | _ => cases ho
  have keepT : ∀ b vs, H b = some (.tup vs) → (L2.upd H a o') b = some (.tup vs) := fun b vs q => by
    by_cases z : b = a
    · subst z
      rw [hu] at q
      exact absurd (Option.some.inj q) (nt vs)
    · rw [L2.upd_ne z]; exact q
  have es' : σ.set i (some (.ref a)) = σ := by
    have hi := (List.getElem?_eq_some_iff.mp es).1
    have q := (List.getElem?_eq_some_iff.mp es).2
    rw [← q]
    simp
  have N1 : REnv W B.H0 ι S.length (L2.upd H a o') (ρ.set i .no) (σ.set i none) := by
    refine ⟨by rw [List.length_set, List.length_set]; exact A.N.len, fun j t v e1 e2 => ?_, fun j k s1 t1 b hjk e1 e2 o1 o2 e3 => ?_⟩
    · rcases zaB e1 with ⟨_, rfl⟩ | ⟨hj, e1⟩
      · trivial
      · rcases zaB e2 with ⟨z, _⟩ | ⟨_, e2⟩
        · exact absurd z hj
        · have ok := A.N.at_ j t v e1 e2
          have apart : ∀ c, t.lends = true → v = some (.ref c) → c ≠ a := fun c hl ev z => by
            subst z
            exact A.N.sep i j s t c (Ne.symm hj) e e1 ho hl es (by rw [e2, ev])
          cases t with
          | no => trivial
          | v d => obtain ⟨w, e3, r⟩ := ok; exact ⟨w, e3, Rep.mono (Nat.le_refl _) (fun _ _ => rfl) keepT _ _ r⟩
          | l xs =>
            obtain ⟨c, vs, e3, e4, e5, e6, e7⟩ := ok
            exact ⟨c, vs, e3, by rw [L2.upd_ne (apart c rfl e3)]; exact e4, Reps.mono (Nat.le_refl _) (fun _ _ => rfl) keepT _ _ e5, e6, e7⟩
          | b xs =>
            obtain ⟨c, vs, e3, e4, e5, e7⟩ := ok
            exact ⟨c, vs, e3, by rw [L2.upd_ne (apart c rfl e3)]; exact e4, Reps.mono (Nat.le_refl _) (fun _ _ => rfl) keepT _ _ e5, e7⟩
          | f xs =>
            obtain ⟨c, vs, e3, e4, e5⟩ := ok
            refine ⟨c, vs, e3, ?_, Reps.mono (Nat.le_refl _) (fun _ _ => rfl) keepT _ _ e5⟩
            rcases e4 with ⟨o, e4, e7⟩ | e4
            · refine .inl ⟨o, ?_, e7⟩
              have hc : c ≠ a := fun z => by
                have ok2 := A.N.at_ i s _ e es
                cases s with
                | l ys => obtain ⟨b, ws, c1, c2, _⟩ := ok2; cases c1; rw [← z, e4] at c2; cases c2
                | d k kvs =>
                  obtain ⟨b, c1, c2, _⟩ := ok2
                  cases c1
                  have m := mut_dic c2
                  rw [← z, e4] at m
                  exact m
                | _ => cases ho
              rw [L2.upd_ne hc]; exact e4
            · exact .inr e4
          | d k kvs =>
            obtain ⟨c, e3, e4, e6, e7⟩ := ok
            exact ⟨c, e3, e4.mono (Nat.le_refl _) (fun _ _ => rfl) keepT fun o q => by rw [L2.upd_ne (apart c rfl e3)]; exact q, e6, e7⟩
    · rcases zaB e1 with ⟨_, rfl⟩ | ⟨hj, e1⟩
      · cases o1
      · rcases zaB e2 with ⟨_, rfl⟩ | ⟨hk, e2⟩
        · cases o2
        · rcases zaB e3 with ⟨z, _⟩ | ⟨_, e3⟩
          · exact absurd z hj
          · rw [List.getElem?_set_ne (Ne.symm hk)]
            exact A.N.sep j k s1 t1 b hjk e1 e2 o1 o2 e3
  have N2 := N1.setS i (s := s') (o := some (.ref a)) (ok' keepT) (fun j t b hj ej _ hl eb => by
    cases eb
    rcases zaB ej with ⟨z, _⟩ | ⟨_, ej⟩
    · exact absurd z hj
    · rw [List.getElem?_set_ne (Ne.symm hj)]
      exact A.N.sep i j s t a (Ne.symm hj) e ej ho hl es) (fun j t b hj ej hw _ eb es2 => by
    cases eb
    rcases zaB ej with ⟨z, _⟩ | ⟨_, ej⟩
    · exact hj z
    · rw [List.getElem?_set_ne (Ne.symm hj)] at es2
      exact A.N.sep i j s t a (Ne.symm hj) e ej ho (own_lends hw) es es2)
  rw [List.set_set, List.set_set, es'] at N2
  refine ⟨A.Z.updAt hb hu nt, A.X.updNew h0, N2, A.le, A.sm, fun b o q => ⟨?_, (A.kp b o q).2⟩, fun b o j t q ej hw es2 => ?_⟩
  · rw [L2.upd_ne fun z => A.no b o i s q e ho (by rw [z]; exact es)]
    exact (A.kp b o q).1
  · rcases zaB ej with ⟨rfl, rfl⟩ | ⟨hj, ej⟩
    · rw [es] at es2
      cases es2
      exact A.no a o j s q e ho es
    · exact A.no b o j t q ej hw es2
def tApp (K : PySem.W.Frag) (to te : TE) : TE := tBM K "list" rAppend to (tCons te tNil)
theorem ty_list {K : PySem.W.Frag} {a : Addr} {vs : List V} (h : H a = some (.lst vs)) : tyV K "list" (.ref a) H := .inl ⟨rfl, vs, .of h⟩
def sAppV (i : Nat) (fe : E) : Sx := fun ρ S => bnd (fe ρ S) fun y S1 => match ρ[i]?, y with
  | some (.l xs), .v d => if xs.length < cap then some (.next (ρ.set i (.l (xs ++ [d]))) S1) else none
  | _, _ => none
theorem own_list {i : Nat} {xs : List D} (N : REnv W H0 ι n H ρ σ) (e : ρ[i]? = some (.l xs)) : ∃ a vs, σ[i]? = some (some (.ref a)) ∧ H a = some (.lst vs) ∧ Reps ι n H xs vs ∧ H0 a = none ∧ ∀ h, h < n → a ≠ ι h := by
  have hi : i < σ.length := by
    have := (List.getElem?_eq_some_iff.mp e).1
    rw [N.len] at this
    exact this
  have qs : σ[i]? = some σ[i] := by simp [hi]
  obtain ⟨a, vs, k1, k2⟩ := N.at_ i _ _ e qs
  exact ⟨a, vs, by rw [qs, k1], k2⟩
theorem simS_appV {K : PySem.W.Frag} {te : TE} {fe : E} {i : Nat} (he : SimE W te fe) : SimS W (tDrop (tApp K (tVar i) te)) (sAppV i fe) := by
  intro B σ H ι ρ S out A e D hD
  obtain ⟨y, S1, e1, e⟩ := zat e
  split at e
  · rename_i xs d q
    split at e
    · rename_i c
      cases e
      obtain ⟨a, vs, es, k2, k3, k4, k5⟩ := own_list A.N q
      refine ⟨.ref a, es, ty_list k2, he.then A.Z A.N e1 fun v2 H2 ι2 Z2 X2 N2 R2 => ?_⟩
      have A2 := A.ext X2 Z2
      have h2 : H2 a = some (.lst vs) := X2.keep a _ k2 k5
      have r2 := k3.ext X2 A.Z
      have R2' : Rep ι2 S1.length H2 d v2 := R2
      refine ⟨a, vs, v2, rfl, rfl, h2, by rw [← k3.length, ← cap_eq]; exact c, hD _ _ ι2 ?_⟩
      refine A2.mut (s' := .l (xs ++ [d])) q rfl es rfl fun kt => ⟨a, _, rfl, upd_same, (Reps.mono (Nat.le_refl _) (fun _ _ => rfl) kt _ _ r2).append (.cons (Rep.mono (Nat.le_refl _) (fun _ _ => rfl) kt _ _ R2') .nil), k4, X2.apart k2 k5⟩
    · cases e
  · cases e
def sAppPop (i j : Nat) (fe : E) : Sx := fun ρ S => bnd (fe ρ S) fun y S1 => match ρ[i]?, ρ[j]?, y with
  | some (.l xs), some (.l ys), .v (.int k) => if i ≠ j ∧ xs.length < cap ∧ -(9223372036854775808) ≤ k ∧ k < 9223372036854775808 then (ixN ys.length k).bind fun m => (ys[m]?).map fun d => .next ((ρ.set j (.l (ys.eraseIdx m))).set i (.l (xs ++ [d]))) S1 else none
  | _, _, _ => none
theorem simS_appPop {K : PySem.W.Frag} {te : TE} {fe : E} {i j : Nat} (he : SimE W te fe) : SimS W (tDrop (tApp K (tVar i) (tBM K "list" rPopAt (tVar j) (tCons te tNil)))) (sAppPop i j fe) := by
  intro B σ H ι ρ S out A e D hD
  obtain ⟨y, S1, e1, e⟩ := zat e
  split at e
  · rename_i xs ys k qi qj
    split at e
    · rename_i c
      obtain ⟨c1, c2, c3, c4⟩ := c
      cases qm : ixN ys.length k with
      | none => rw [qm] at e; cases e
      | some m =>
        rw [qm] at e
        simp only [Option.bind_some] at e
        cases qd : ys[m]? with
        | none => rw [qd] at e; cases e
        | some d =>
          rw [qd] at e
          cases e
          obtain ⟨a, vs, es, k2, k3, k4, k5⟩ := own_list A.N qi
          obtain ⟨b, ws, et, l2, l3, l4, l5⟩ := own_list A.N qj
          have hab : a ≠ b := fun z => A.N.sep i j _ _ a c1 qi qj rfl rfl es (by rw [z]; exact et)
          refine ⟨.ref a, es, ty_list k2, .ref b, et, ty_list l2, he.then A.Z A.N e1 fun v2 H2 ι2 Z2 X2 N2 R2 => ?_⟩
          cases R2
          have A2 := A.ext X2 Z2
          have h2 : H2 a = some (.lst vs) := X2.keep a _ k2 k5
          have g2 : H2 b = some (.lst ws) := X2.keep b _ l2 l5
          have r2 := k3.ext X2 A.Z
          have s2 := l3.ext X2 A.Z
          obtain ⟨v, e3, r3⟩ := s2.get qd
          have ix := ixN_seq qm
          refine ⟨b, ws, k, m, v, rfl, rfl, g2, by omega, by omega, by rw [← l3.length]; exact ix.1, e3, ?_⟩
          have A3 := A2.mut (s' := .l (ys.eraseIdx m)) (o' := .lst (ws.eraseIdx m)) qj rfl et rfl fun kt => ⟨b, _, rfl, upd_same, Reps.mono (Nat.le_refl _) (fun _ _ => rfl) kt _ _ (s2.eraseIdx m), l4, X2.apart l2 l5⟩
          have qi3 : (ρ.set j (.l (ys.eraseIdx m)))[i]? = some (.l xs) := by rw [List.getElem?_set_ne (Ne.symm c1)]; exact qi
          have h3 : (upd H2 b (.lst (ws.eraseIdx m))) a = some (.lst vs) := by rw [upd_ne hab]; exact h2
          refine ⟨a, vs, v, rfl, rfl, h3, by rw [← k3.length, ← cap_eq]; exact c2, hD _ _ ι2 ?_⟩
          have nt : ∀ us, (HO.lst ws) ≠ .tup us := fun us z => by cases z
          have r4 := r2.updAt (a := b) (o := .lst (ws.eraseIdx m)) g2 nt
          have r5 := r3.updAt (a := b) (o := .lst (ws.eraseIdx m)) g2 nt
          exact A3.mut (s' := .l (xs ++ [d])) qi3 rfl es rfl fun kt => ⟨a, _, rfl, upd_same, (Reps.mono (Nat.le_refl _) (fun _ _ => rfl) kt _ _ r4).append (.cons (Rep.mono (Nat.le_refl _) (fun _ _ => rfl) kt _ _ r5) .nil), k4, X2.apart k2 k5⟩
    · cases e
  · cases e
def eLPop (fo fi : E) : E := fun ρ S => bnd (fo ρ S) fun x S1 => bnd (fi ρ S1) fun y S2 => match x, y with
  | .v (.ob h), .v (.int k) => (match S2[h]?, S1[h]? with
    | some (.lst xs), some (.lst _) => if -(9223372036854775808) ≤ k ∧ k < 9223372036854775808 then (ixN xs.length k).bind fun m => (xs[m]?).map fun d => (.v d, S2.set h (.lst (xs.eraseIdx m))) else none
    | _, _ => none)
  | _, _ => none
theorem sim_lpop {K : PySem.W.Frag} {to ti : TE} {fo fi : E} (ho : SimE W to fo) (hi : SimE W ti fi) : SimE W (tBM K "list" rPopAt to (tCons ti tNil)) (eLPop fo fi) := by
  intro σ H ι ρ S H0 z S' Z N e Q hQ
  obtain ⟨x, S1, e1, e⟩ := zat e
  obtain ⟨y, S2, e2, e⟩ := zat e
  split at e
  · rename_i h k _
    split at e
    · rename_i xs ys q qy
      split at e
      · rename_i c
        cases qm : ixN xs.length k with
        | none => rw [qm] at e; cases e
        | some m =>
          rw [qm] at e
          simp only [Option.bind_some] at e
          cases qd : xs[m]? with
          | none => rw [qd] at e; cases e
          | some d =>
            rw [qd] at e
            cases e
            refine ho.then Z N e1 fun v1 H1 ι1 Z1 X1 N1 R1 => ?_
            have R1' : Rep ι1 S1.length H1 (.ob h) v1 := R1
            cases R1' with
            | ob hh =>
              obtain ⟨ws, w1, _⟩ := Z1.at_ h _ qy
              refine ⟨ty_list w1, hi.then Z1 N1 e2 fun v2 H2 ι2 Z2 X2 N2 R2 => ?_⟩
              cases R2
              have hh2 : h < S2.length := Nat.lt_of_lt_of_le hh X2.le
              obtain ⟨us, u1, u2⟩ := Z2.at_ h _ q
              obtain ⟨v, e3, r3⟩ := u2.get qd
              have ix := ixN_seq qm
              rw [← X2.same h hh]
              refine ⟨ι2 h, us, k, m, v, rfl, rfl, u1, by omega, by omega, by rw [← u2.length]; exact ix.1, e3, ?_⟩
              have Z3 : RSt W ι2 (upd H2 (ι2 h) (.lst (us.eraseIdx m))) (S2.set h (.lst (xs.eraseIdx m))) := Z2.setO hh2 ⟨_, upd_same, (u2.setO Z2 hh2).eraseIdx m⟩
              have X3 : Ext ι2 S2.length H2 ι2 S2.length (upd H2 (ι2 h) (.lst (us.eraseIdx m))) := Ext.setO hh2 (mut_lst u1)
              have X13 := (X1.trans X2 Z1).trans X3 Z2
              refine hQ v _ ι2 Z3 (by rw [List.length_set]; exact X13) ?_
              rw [List.length_set]
              exact r3.setO Z2 hh2
      · cases e
    · cases e
  · cases e
theorem PS.or {X : Cx} {st : Stmt} {a b : TS} (h : PS X st a) (h' : PS X st b) : PS X st (fun D σ H => a D σ H ∨ b D σ H) :=
  ⟨fun pins s σ H D I q => q.elim (h.run pins s σ H D I) (h'.run pins s σ H D I)⟩
def rSetN : TSet := fun o i v H Q => ∃ (a b : Addr) (xs : List (List (List Int) × Addr)) (kss : List (List Int)), o = .ref a ∧ i = .ref b ∧ v = .bl true ∧ H a = some (.ext (dictN a xs)) ∧ (xs.map (·.1)).Nodup ∧ xs.length < sizeLine ∧
  (∀ q ∈ xs, NestAt H q.1 q.2) ∧ NestAt H kss b ∧ kss ∉ xs.map (·.1) ∧ Q (upd H a (.ext (dictN a (xs ++ [(kss, b)]))))
theorem set_N {X : Cx} (hu : X.A.units + 16 < cLine) : PSet X rSetN := by
  intro pins s σ H o i v ov iv u Q I ro ri rv h
  obtain ⟨a, b, xs, kss, rfl, rfl, rfl, e, nd, hz, hn, nb, hk, q⟩ := h
  cases ro
  cases ri
  cases rv
  refine wpAny_setItem_heap (knd := nestKind X.prog X.w) (hsz := by rw [List.length_map]; exact Nat.le_of_lt hz) (by show X.A.units + 1 + 8 < cLine; omega) (nest_is I nb) (dictN_of I e nd hn) fun h' dd hs => ?_
  have ek : atKey (xs.map fun x => (x.1, x.2, Value.bool true)) kss = none := by
    have z := atKey_N (xs := xs) (kss := kss)
    rw [decide_eq_false hk] at z
    exact Option.isNone_iff_eq_none.mp (by rw [← Option.not_isSome, z]; rfl)
  rw [storedH_new ek] at dd
  obtain ⟨w, es, ep, hw, h2, h3, h4, _, _⟩ := dd
  refine ⟨_, ?_, q⟩
  refine d_write I (by rw [e]; exact True.intro) hs ⟨w, hw⟩ ⟨⟨w, es, ep, hw, h2, h3, ?_⟩, ⟨w, hw⟩, fun h1 h2 q k => ?_⟩
  · rw [h4, List.map_append, List.map_append, List.map_map]
    rfl
  · obtain ⟨o, es, ep, q1, q2⟩ := q
    exact ⟨o, es, ep, k o q1, q2⟩
def tSet (to ti te : TE) : TS := fun D σ H => tAsg te (L2.gSub to ti rSetL) D σ H ∨ (sDPut to ti te D σ H ∨ tAsg te (L2.gSub to ti rSetN) D σ H)
theorem put_K {kvs : List (D × D)} {kv : List (Key × V)} {q : Key} {d : D} {v : V} (h : All2 (fun (p : D × D) (q : Key × V) => p.1 = keyD q.1 ∧ Rep ι n H p.2 q.2) kvs kv) (r : Rep ι n H d v) :
    All2 (fun (p : D × D) (q : Key × V) => p.1 = keyD q.1 ∧ Rep ι n H p.2 q.2) (dPut kvs (keyD q) d) (putK kv q v) := by
  have any : ∀ {ps : List (D × D)} {qs : List (Key × V)}, All2 (fun (p : D × D) (q : Key × V) => p.1 = keyD q.1 ∧ Rep ι n H p.2 q.2) ps qs → (ps.any fun p => decide (p.1 = keyD q)) = qs.any fun p => decide (p.1 = q) := by
    intro ps qs a
    induction a with
    | nil => rfl
    | @cons p z ps qs hp t ih =>
      rw [List.any_cons, List.any_cons, ih]
      congr 1
      by_cases e : z.1 = q
      · rw [decide_eq_true e, decide_eq_true (by rw [hp.1, e])]
      · rw [decide_eq_false e, decide_eq_false fun y => e (keyD_inj (hp.1.symm.trans y))]
  unfold dPut putK
  rw [any h]
  split
  · have go : ∀ {ps : List (D × D)} {qs : List (Key × V)}, All2 (fun (p : D × D) (q : Key × V) => p.1 = keyD q.1 ∧ Rep ι n H p.2 q.2) ps qs →
        All2 (fun (p : D × D) (q : Key × V) => p.1 = keyD q.1 ∧ Rep ι n H p.2 q.2) (ps.map fun p => if p.1 = keyD q then (p.1, d) else p) (qs.map fun kv => if kv.1 = q then (kv.1, v) else kv) := by
      intro ps qs a
      induction a with
      | nil => exact .nil
      | @cons p z ps qs hp t ih =>
        rw [List.map_cons, List.map_cons]
        refine .cons ?_ ih
        by_cases e : z.1 = q
        · rw [if_pos e, if_pos (by rw [hp.1, e])]
          exact ⟨hp.1, r⟩
        · rw [if_neg e, if_neg fun y => e (keyD_inj (hp.1.symm.trans y))]
          exact hp
    exact go h
  · exact h.append (.cons ⟨rfl, r⟩ .nil)
theorem put_T {kvs : List (D × D)} {kv : List (List Key × V)} {q : List Key} {d : D} {v : V} (h : All2 (fun (p : D × D) (q : List Key × V) => p.1 = .tup (q.1.map keyD) ∧ Rep ι n H p.2 q.2) kvs kv) (r : Rep ι n H d v) :
    All2 (fun (p : D × D) (q : List Key × V) => p.1 = .tup (q.1.map keyD) ∧ Rep ι n H p.2 q.2) (dPut kvs (.tup (q.map keyD)) d) (putK kv q v) := by
  have inj : ∀ {a b : List Key}, (D.tup (a.map keyD) = D.tup (b.map keyD)) → a = b := fun e => by
    injection e with e
    exact List.map_inj_right (fun _ _ => keyD_inj) |>.mp e
  have any : ∀ {ps : List (D × D)} {qs : List (List Key × V)}, All2 (fun (p : D × D) (q : List Key × V) => p.1 = .tup (q.1.map keyD) ∧ Rep ι n H p.2 q.2) ps qs → (ps.any fun p => decide (p.1 = .tup (q.map keyD))) = qs.any fun p => decide (p.1 = q) := by
    intro ps qs a
    induction a with
    | nil => rfl
    | @cons p z ps qs hp t ih =>
      rw [List.any_cons, List.any_cons, ih]
      congr 1
      by_cases e : z.1 = q
      · rw [decide_eq_true e, decide_eq_true (by rw [hp.1, e])]
      · rw [decide_eq_false e, decide_eq_false fun y => e (inj (hp.1.symm.trans y))]
  unfold dPut putK
  rw [any h]
  split
  · have go : ∀ {ps : List (D × D)} {qs : List (List Key × V)}, All2 (fun (p : D × D) (q : List Key × V) => p.1 = .tup (q.1.map keyD) ∧ Rep ι n H p.2 q.2) ps qs →
        All2 (fun (p : D × D) (q : List Key × V) => p.1 = .tup (q.1.map keyD) ∧ Rep ι n H p.2 q.2) (ps.map fun p => if p.1 = .tup (q.map keyD) then (p.1, d) else p) (qs.map fun kv => if kv.1 = q then (kv.1, v) else kv) := by
      intro ps qs a
      induction a with
      | nil => exact .nil
      | @cons p z ps qs hp t ih =>
        rw [List.map_cons, List.map_cons]
        refine .cons ?_ ih
        by_cases e : z.1 = q
        · rw [if_pos e, if_pos (by rw [hp.1, e])]
          exact ⟨hp.1, r⟩
        · rw [if_neg e, if_neg fun y => e (inj (hp.1.symm.trans y))]
          exact hp
    exact go h
  · exact h.append (.cons ⟨rfl, r⟩ .nil)
theorem dput_ok {a : Addr} {k : DK} {kvs : List (D × D)} {y d : D} {vy v : V} (h : DicAt ι n H a k kvs) (hk : keyOk k y = true) (hN : k ≠ .N) (hz : kvs.length < cap) (ry : Rep ι n H y vy) (r : Rep ι n H d v) :
    ∃ o', DPut H a vy v (upd H a o') ∧ ((∀ b vs, H b = some (.tup vs) → (upd H a o') b = some (.tup vs)) → DicAt ι n (upd H a o') a k (dPut kvs y d)) := by
  cases k with
  | K =>
    obtain ⟨q, rfl⟩ := keyOk_K hk
    obtain ⟨kv, e, rr⟩ := h
    have ev := rep_key ry
    subst ev
    refine ⟨.dK (putK kv q v), DPut.k e (by rw [← rr.length, ← cap_eq]; exact hz), fun kt => ⟨_, upd_same, ?_⟩⟩
    exact (put_K rr r).mono fun p q z => ⟨z.1, Rep.mono (Nat.le_refl _) (fun _ _ => rfl) kt _ _ z.2⟩
  | T =>
    obtain ⟨q, rfl⟩ := keyOk_T hk
    obtain ⟨kv, e, rr⟩ := h
    cases ry with
    | @tup _ b vs e1 e2 =>
      rw [reps_keys e2] at e1
      refine ⟨.dT (putK kv q v), DPut.t e e1 (by rw [← rr.length, ← cap_eq]; exact hz), fun kt => ⟨_, upd_same, ?_⟩⟩
      exact (put_T rr r).mono fun p q z => ⟨z.1, Rep.mono (Nat.le_refl _) (fun _ _ => rfl) kt _ _ z.2⟩
  | N => exact absurd rfl hN
theorem dputN_ok {a : Addr} {kvs : List (D × D)} {y : D} {vy : V} {Q : Hp → Prop} (h : DicAt ι n H a .N kvs) (hk : keyOk .N y = true) (hz : kvs.length < cap) (hnew : dLook kvs y = none) (ry : Rep ι n H y vy)
    (hQ : ∀ o', ((∀ b vs, H b = some (.tup vs) → (upd H a o') b = some (.tup vs)) → DicAt ι n (upd H a o') a .N (kvs ++ [(y, .bl true)])) → Q (upd H a o')) : rSetN (.ref a) vy (.bl true) H Q := by
  obtain ⟨kss, rfl⟩ := keyOk_N hk
  obtain ⟨xs, e, nd, hl, hs, r⟩ := h
  obtain ⟨b, rfl, nb⟩ := rep_nest ry
  have all : ∀ {ps : List (D × D)} {zs : List (List (List Int) × Addr)}, All2 (fun (p : D × D) (q : List (List Int) × Addr) => p.1 = nestD q.1 ∧ p.2 = .bl true ∧ NestAt H q.1 q.2) ps zs →
      (∀ q ∈ zs, NestAt H q.1 q.2) ∧ (dLook ps (nestD kss) = none → kss ∉ zs.map (·.1)) := by
    intro ps zs q
    induction q with
    | nil => exact ⟨fun q hq => (by cases hq), fun _ hm => (by cases hm)⟩
    | @cons p z ps zs h t ih =>
      obtain ⟨h1, h2, h3⟩ := h
      refine ⟨fun q hq => ?_, fun hn hm => ?_⟩
      · rcases List.mem_cons.mp hq with e | hq
        · subst e; exact h3
        · exact ih.1 q hq
      · by_cases e : z.1 = kss
        · have e' : p.1 = nestD kss := by rw [h1, e]
          have : dLook (p :: ps) (nestD kss) = some p.2 := by simp [dLook, List.find?_cons, e']
          rw [this] at hn
          cases hn
        · have e' : ¬ p.1 = nestD kss := fun z' => e (nestD_inj (h1.symm.trans z'))
          have : dLook (p :: ps) (nestD kss) = dLook ps (nestD kss) := by simp [dLook, List.find?_cons, e']
          rw [this] at hn
          rw [List.map_cons] at hm
          rcases List.mem_cons.mp hm with q | q
          · exact e q.symm
          · exact ih.2 hn q
  obtain ⟨a1, a2⟩ := all r
  have hk2 := a2 hnew
  have hlen : xs.length < sizeLine := by rw [← r.length, ← cap_eq]; exact hz
  refine ⟨a, b, xs, kss, rfl, rfl, rfl, e, nd, hlen, a1, nb, hk2, hQ _ fun kt => ⟨xs ++ [(kss, b)], upd_same, ?_, by rw [List.length_append]; simp; omega, hs, ?_⟩⟩
  · rw [List.map_append]
    exact List.nodup_append.mpr ⟨nd, by simp, fun x hx y hy => by simp at hy; rw [hy]; exact fun z => hk2 (z ▸ hx)⟩
  · exact (r.mono fun p q z => ⟨z.1, z.2.1, z.2.2.mono kt⟩).append (.cons ⟨rfl, rfl, nb.mono kt⟩ .nil)
def putOb (o : Ob) (y d : D) : Option Ob := match o with
  | .lst xs => (match y with
    | .int k => (ixN xs.length k).map fun j => .lst (xs.set j d)
    | _ => none)
  | .dic k kvs => if keyOk k y = true ∧ kvs.length < cap then (if k = .N then (if d = .bl true ∧ dLook kvs y = none then some (.dic .N (kvs ++ [(y, d)])) else none) else some (.dic k (dPut kvs y d))) else none
  | _ => none
def sSet (fo fi fv : E) : Sx := fun ρ S => bnd (fv ρ S) fun z S1 => bnd (fo ρ S1) fun x S2 => bnd (fi ρ S2) fun y S3 => match x, y, z with
  | .v (.ob h), .v y, .v d => (match S3[h]? with
    | some o => (putOb o y d).map fun o' => .next ρ (S3.set h o')
    | none => none)
  | _, _, _ => none
theorem simS_set {to ti te : TE} {fo fi fv : E} (ho : SimE W to fo) (hi : SimE W ti fi) (hv : SimE W te fv) : SimS W (tSet to ti te) (sSet fo fi fv) := by
  intro B σ H ι ρ S out A e D hD
  obtain ⟨z, S1, e1, e⟩ := zat e
  obtain ⟨x, S2, e2, e⟩ := zat e
  obtain ⟨y, S3, e3, e⟩ := zat e
  split at e
  · rename_i h y d _ _
    cases q : S3[h]? with
    | none => rw [q] at e; cases e
    | some o =>
      rw [q] at e
      simp only at e
      cases q2 : putOb o y d with
      | none => rw [q2] at e; cases e
      | some o2 =>
        rw [q2] at e
        cases e
        have go : ∀ (K : TSet), (∀ (H3 : Hp) (ι3 : Nat → Addr) (v2 v3 v1 : V), RSt W ι3 H3 S3 → h < S3.length → v2 = .ref (ι3 h) → Rep ι3 S3.length H3 y v3 → Rep ι3 S3.length H3 d v1 →
            (∀ o', RSt W ι3 (upd H3 (ι3 h) o') (S3.set h o2) → Ext ι3 S3.length H3 ι3 S3.length (upd H3 (ι3 h) o') → D.nx σ (upd H3 (ι3 h) o')) → K v2 v3 v1 H3 fun H4 => D.nx σ H4) → tAsg te (L2.gSub to ti K) D σ H := fun K hK => by
          refine hv.then A.Z A.N e1 fun v1 H1 ι1 Z1 X1 N1 R1 => ho.then Z1 N1 e2 fun v2 H2 ι2 Z2 X2 N2 R2 => hi.then Z2 N2 e3 fun v3 H3 ι3 Z3 X3 N3 R3 => ?_
          have R2' : Rep ι2 S2.length H2 (.ob h) v2 := R2
          cases R2' with
          | ob hh =>
            have A3 := ((A.ext X1 Z1).ext X2 Z2).ext X3 Z3
            have hh3 := Nat.lt_of_lt_of_le hh X3.le
            have R1' : Rep ι3 S3.length H3 d v1 := (R1.ext X2 Z1).ext X3 Z2
            refine hK H3 ι3 _ v3 v1 Z3 hh3 (by rw [X3.same h hh]) R3 R1' fun o' Z4 X4 => hD σ _ ι3 (A3.ext (by rw [List.length_set]; exact X4) Z4)
        unfold putOb at q2
        split at q2
        · rename_i xs
          split at q2
          · rename_i k
            cases qj : ixN xs.length k with
            | none => rw [qj] at q2; cases q2
            | some j =>
              rw [qj] at q2
              cases q2
              refine .inl (go _ fun H3 ι3 v2 v3 v1 Z3 hh e2 r3 r1 fin => ?_)
              subst e2
              cases r3
              obtain ⟨us, u1, u2⟩ := Z3.at_ h _ q
              exact ⟨_, us, k, j, rfl, rfl, u1, by rw [← u2.length]; exact qj, fin _ (Z3.setO hh ⟨_, upd_same, (u2.setO Z3 hh).set j (r1.setO Z3 hh)⟩) (Ext.setO hh (mut_lst u1))⟩
          · cases q2
        · rename_i k kvs
          split at q2
          · rename_i c
            split at q2
            · rename_i cN
              subst cN
              split at q2
              · rename_i cd
                cases q2
                obtain ⟨rfl, cd2⟩ := cd
                refine .inr (.inr (go _ fun H3 ι3 v2 v3 v1 Z3 hh e2 r3 r1 fin => ?_))
                subst e2
                cases r1
                exact dputN_ok (Z3.at_ h _ q) c.1 c.2 cd2 r3 fun o' ok => fin o' (Z3.setO hh (ok (Z3.keepT hh))) (Ext.setO hh (mut_dic (show DicAt ι3 S3.length H3 (ι3 h) .N kvs from Z3.at_ h _ q)))
              · cases q2
            · rename_i cN
              cases q2
              refine .inr (.inl ?_)
              refine hv.then A.Z A.N e1 fun v1 H1 ι1 Z1 X1 N1 R1 => ho.then Z1 N1 e2 fun v2 H2 ι2 Z2 X2 N2 R2 => hi.then Z2 N2 e3 fun v3 H3 ι3 Z3 X3 N3 R3 => ?_
              have R2' : Rep ι2 S2.length H2 (.ob h) v2 := R2
              cases R2' with
              | ob hh =>
                have A3 := ((A.ext X1 Z1).ext X2 Z2).ext X3 Z3
                have hh3 := Nat.lt_of_lt_of_le hh X3.le
                have R1' : Rep ι3 S3.length H3 d v1 := (R1.ext X2 Z1).ext X3 Z2
                obtain ⟨o', p1, p2⟩ := dput_ok (Z3.at_ h _ q) c.1 cN c.2 R3 R1'
                refine ⟨ι2 h, _, rfl, by rw [← X3.same h hh]; exact p1, ?_⟩
                have Z4 := Z3.setO (ob := .dic k (dPut kvs y d)) hh3 (p2 (Z3.keepT hh3))
                have X4 : Ext ι3 S3.length H3 ι3 S3.length (upd H3 (ι3 h) o') := Ext.setO hh3 (mut_dic (show DicAt ι3 S3.length H3 (ι3 h) k kvs from Z3.at_ h _ q))
                exact hD σ _ ι3 (A3.ext (by rw [List.length_set]; exact X4) Z4)
          · cases q2
        · cases q2
  · cases e
def putSl (s : Sl) (y d : D) : Option Sl := match s with
  | .l xs => (match y with
    | .int k => (ixN xs.length k).map fun j => .l (xs.set j d)
    | _ => none)
  | .d k kvs => if keyOk k y = true ∧ kvs.length < cap ∧ k ≠ .N then some (.d k (dPut kvs y d)) else none
  | _ => none
def sSetV (i : Nat) (fi fv : E) : Sx := fun ρ S => bnd (fv ρ S) fun z S1 => bnd (fi ρ S1) fun y S2 => match ρ[i]?, y, z with
  | some s, .v y, .v d => (putSl s y d).map fun s' => .next (ρ.set i s') S2
  | _, _, _ => none
theorem own_dict {i : Nat} {k : DK} {kvs : List (D × D)} (N : REnv W H0 ι n H ρ σ) (e : ρ[i]? = some (.d k kvs)) : ∃ a, σ[i]? = some (some (.ref a)) ∧ DicAt ι n H a k kvs ∧ H0 a = none ∧ ∀ h, h < n → a ≠ ι h := by
  have hi : i < σ.length := by
    have := (List.getElem?_eq_some_iff.mp e).1
    rw [N.len] at this
    exact this
  have qs : σ[i]? = some σ[i] := by simp [hi]
  obtain ⟨a, k1, k2⟩ := N.at_ i _ _ e qs
  exact ⟨a, by rw [qs, k1], k2⟩
theorem zbl {ti te : TE} {fi fv : E} {i : Nat} (hi : SimE W ti fi) (hv : SimE W te fv) : SimS W (tSet (tVar i) ti te) (sSetV i fi fv) := by
  intro B σ H ι ρ S out A e D hD
  obtain ⟨z, S1, e1, e⟩ := zat e
  obtain ⟨y, S2, e2, e⟩ := zat e
  split at e
  · rename_i s y d q _
    cases q2 : putSl s y d with
    | none => rw [q2] at e; cases e
    | some s' =>
      rw [q2] at e
      cases e
      unfold putSl at q2
      split at q2
      · rename_i xs
        split at q2
        · rename_i k
          cases qj : ixN xs.length k with
          | none => rw [qj] at q2; cases q2
          | some j =>
            rw [qj] at q2
            cases q2
            obtain ⟨a, vs, es, k2, k3, k4, k5⟩ := own_list A.N q
            refine .inl (hv.then A.Z A.N e1 fun v1 H1 ι1 Z1 X1 N1 R1 => ⟨.ref a, es, hi.then Z1 N1 e2 fun v3 H3 ι3 Z3 X3 N3 R3 => ?_⟩)
            cases R3
            have X13 := X1.trans X3 Z1
            have A3 := (A.ext X1 Z1).ext X3 Z3
            have h3 : H3 a = some (.lst vs) := X13.keep a _ k2 k5
            have r3 := k3.ext X13 A.Z
            have R1' : Rep ι3 S2.length H3 d v1 := R1.ext X3 Z1
            refine ⟨a, vs, k, j, rfl, rfl, h3, by rw [← k3.length]; exact qj, hD σ _ ι3 ?_⟩
            exact A3.mut (s' := .l (xs.set j d)) q rfl es rfl fun kt => ⟨a, _, rfl, upd_same, (Reps.mono (Nat.le_refl _) (fun _ _ => rfl) kt _ _ r3).set j (Rep.mono (Nat.le_refl _) (fun _ _ => rfl) kt _ _ R1'), k4, X13.apart k2 k5⟩
        · cases q2
      · rename_i k kvs
        split at q2
        · rename_i c
          cases q2
          obtain ⟨a, es, k2, k4, k5⟩ := own_dict A.N q
          refine .inr (.inl (hv.then A.Z A.N e1 fun v1 H1 ι1 Z1 X1 N1 R1 => ⟨.ref a, es, hi.then Z1 N1 e2 fun v3 H3 ι3 Z3 X3 N3 R3 => ?_⟩))
          have X13 := X1.trans X3 Z1
          have A3 := (A.ext X1 Z1).ext X3 Z3
          obtain ⟨o, ko⟩ := k2.there
          have d3 : DicAt ι3 S2.length H3 a k kvs := k2.mono X13.le X13.same (X13.tup A.Z) fun u qu => X13.keep a u qu k5
          have R1' : Rep ι3 S2.length H3 d v1 := R1.ext X3 Z1
          obtain ⟨o', p1, p2⟩ := dput_ok d3 c.1 c.2.2 c.2.1 R3 R1'
          refine ⟨a, _, rfl, p1, hD σ _ ι3 ?_⟩
          exact A3.mut (s' := .d k (dPut kvs y d)) q rfl es rfl fun kt => ⟨a, rfl, p2 kt, k4, X13.apart ko k5⟩
        · cases q2
      · cases q2
  · cases e
end
end Ev
namespace Ev
open PySem L2
section
variable {W : Wd} {B : Bas} {ι ι' ι1 ι0 : Nat → Addr} {n n' : Nat} {H H' H0 H1 : Hp} {S S' S1 S0 : Store} {ρ : Env} {σ : St}
def eChain (g g' : Store → R → R → Option R) (fa fb fc : E) : E := fun ρ S => bnd (fa ρ S) fun x S1 => bnd (fb ρ S1) fun y S2 => (g S2 x y).bind fun z => match z.bool with
  | some true => bnd (fc ρ S2) fun w S3 => (g' S3 y w).map fun z => (z, S3)
  | some false => some (.v (.bl false), S2)
  | none => none
theorem sim_chain {ta tb tc : TE} {fa fb fc : E} {r r' : R2} {g g' : Store → R → R → Option R} (ha : SimE W ta fa) (hb : SimE W tb fb) (hc : SimE W tc fc) (ho : SimOp W r g) (ho' : SimOp W r' g') :
    SimE W (tChain r r' ta tb tc) (eChain g g' fa fb fc) := by
  intro σ H ι ρ S H0 z S' Z N e Q hQ
  obtain ⟨x, S1, e1, ea⟩ := zat e
  obtain ⟨y, S2, e2, eb⟩ := zat ea
  clear e ea
  cases q : g S2 x y with
  | none => rw [q] at eb; cases eb
  | some z1 =>
    rw [q] at eb
    simp only [Option.bind_some] at eb
    refine ha.then Z N e1 fun v1 H1 ι1 Z1 X1 N1 R1 => hb.then Z1 N1 e2 fun v2 H2 ι2 Z2 X2 N2 R2 => ?_
    refine ho H2 ι2 S2 H H1 x y z1 v1 v2 Z2 (R1.ext X2 Z1) R2 q _ fun v3 H3 Z3 X3 R3 => ?_
    cases qb : z1.bool with
    | none => rw [qb] at eb; cases eb
    | some k =>
      rw [qb] at eb
      have ek := bool_eq qb
      subst ek
      cases R3
      refine ⟨k, rfl, ?_⟩
      cases k with
      | false =>
        simp only at eb
        cases eb
        simp only [Bool.false_eq_true, if_false]
        exact hQ _ H3 ι2 Z3 ((X1.trans X2 Z1).trans X3 Z2) (.bl false)
      | true =>
        simp only [if_true]
        simp only at eb
        obtain ⟨w, S3, e3, ec⟩ := zat eb
        cases q2 : g' S3 y w with
        | none => rw [q2] at ec; cases ec
        | some z2 =>
          rw [q2] at ec
          cases ec
          refine hc.then Z3 ((N2.ext X3 Z2)) e3 fun v4 H4 ι4 Z4 X4 N4 R4 => ?_
          have R2' : RR W H1 ι4 S'.length H4 y v2 := (R2.ext X3 Z2).ext X4 Z3
          refine ho' H4 ι4 S' H1 H3 y w z v2 v4 Z4 R2' R4 q2 _ fun v5 H5 Z5 X5 R5 => ?_
          have XX := ((X1.trans X2 Z1).trans X3 Z2).trans X4 Z3
          exact hQ v5 H5 ι4 Z5 (XX.trans X5 Z4) (R5.back2 XX Z4)
def R.isVL : R → Bool
  | .v _ => true
  | .l _ => true
  | _ => false
theorem RR.updVL {a : Addr} {o : HO} {Hb : Hp} {r : R} {v : V} {kvs : List (Key × V)} (q : RR W Hb ι n H r v) (hr : r.isVL = true) (hu : H a = some (.dK kvs)) : RR W Hb ι n (upd H a o) r v := by
  have nt : ∀ us, (HO.dK kvs) ≠ .tup us := fun us q => by cases q
  cases r with
  | v d => exact Rep.updAt (show Rep ι n H d v from q) hu nt
  | l xs =>
    obtain ⟨b, vs, rfl, h1, h2, h3, h4⟩ := q
    have hb : b ≠ a := fun z => by
      rw [z, hu] at h1
      cases h1
    exact ⟨b, vs, rfl, by rw [upd_ne hb]; exact h1, h2.updAt hu nt, h3, h4⟩
  | _ => cases hr
theorem all2_VL {a : Addr} {o : HO} {Hb : Hp} {kvs : List (Key × V)} (hu : H a = some (.dK kvs)) : ∀ {rs : List R} {vs : List V}, All2 (RR W Hb ι n H) rs vs → rs.all R.isVL = true → All2 (RR W Hb ι n (upd H a o)) rs vs
  | _, _, .nil, _ => .nil
  | _, _, .cons h t, e => by
    rw [List.all_cons, Bool.and_eq_true] at e
    exact .cons (h.updVL e.1 hu) (all2_VL hu t e.2)
def eDispGet (ks : List Int) (fs : List E) (fk fd : E) : E := fun ρ S => bnd (eArgs fs ρ S) fun rs S1 => bnd (fk ρ S1) fun k S2 => bnd (fd ρ S2) fun d S3 => k.int.bind fun i =>
  if (ks.Nodup ∧ ks.length ≤ 15) ∧ rs.all R.isVL = true then some (((ks.zip rs).lookup i).getD d, S3) else none
def tPrs (ks : List Int) (ts : List TE) : List (TE × TE) := (ks.zip ts).map fun p => (tC (.int p.1), p.2)
inductive SimEs (W : Wd) : List TE → List E → Prop
  | nil : SimEs W [] []
  | cons {t : TE} {f : E} {ts : List TE} {fs : List E} : SimE W t f → SimEs W ts fs → SimEs W (t :: ts) (f :: fs)
theorem sim_pairs {Hb : Hp} : ∀ {ks : List Int} {ts : List TE} {fs : List E} {ι : Nat → Addr} {H : Hp} {S : Store} {rs : List R}, SimEs W ts fs → ks.length = ts.length → RSt W ι H S → REnv W H0 ι S.length H ρ σ → eArgs fs ρ S = some (rs, S') → (∀ a, H a = none → Hb a = none) →
    ∀ Q : List (V × V) → Hp → Prop, (∀ vs H' ι', RSt W ι' H' S' → Ext ι S.length H ι' S'.length H' → All2 (RR W Hb ι' S'.length H') rs vs → Q ((ks.zip vs).map fun p => (V.int p.1, p.2)) H') → tPairs (tPrs ks ts) σ H Q
  | [], _, _, ι, H, S, rs, .nil, _, Z, N, e, _, Q, hQ => by
    cases e
    exact hQ [] H ι Z .refl .nil
  | k :: ks, _, _, ι, H, S, rs, .cons (ts := ts) (fs := fs) (t := t) (f := f) h hs, hl, Z, N, e, hb, Q, hQ => by
    obtain ⟨x, S1, e1, ea⟩ := zat e
    obtain ⟨xs, S2, e2, eb⟩ := zat ea
    cases eb
    show t σ H _
    refine h.then Z N e1 fun v1 H1 ι1 Z1 X1 N1 R1 => ?_
    refine sim_pairs (ks := ks) (Hb := Hb) hs (by simpa using hl) Z1 N1 e2 (fun a q => hb a (X1.dom Z1 q)) _ fun vs H2 ι2 Z2 X2 R2 => ?_
    refine hQ (v1 :: vs) H2 ι2 Z2 (X1.trans X2 Z1) (.cons ?_ R2)
    exact (R1.ext X2 Z1).older (fun a q => hb a q) _ _
theorem lookup_valV : ∀ {ks : List Int} {vs : List V} {i : Int}, valV ((ks.zip vs).map fun p => ((Sum.inl p.1 : Key), p.2)) (Sum.inl i) = (ks.zip vs).lookup i
  | [], _, _ => rfl
  | _ :: _, [], _ => rfl
  | k :: ks, v :: vs, i => by
    show valV ((Sum.inl k, v) :: ((ks.zip vs).map fun p => ((Sum.inl p.1 : Key), p.2))) (Sum.inl i) = List.lookup i ((k, v) :: ks.zip vs)
    rw [List.lookup_cons]
    by_cases h : k = i
    · subst h
      rw [valV_pos rfl]
      simp
    · have h1 : ¬ (Sum.inl k : Key) = Sum.inl i := fun z => h (Sum.inl.inj z)
      rw [valV_neg h1, lookup_valV]
      have h2 : (i == k) = false := by
        refine beq_eq_false_iff_ne.mpr fun z => h z.symm
      rw [h2]
theorem merge_new : ∀ {more : List (Key × V)} {kvs : List (Key × V)}, (kvs ++ more).map (·.1) |>.Nodup → mergeK kvs more = kvs ++ more
  | [], kvs, _ => by simp [mergeK]
  | (k, v) :: more, kvs, h => by
    have hk : (kvs.any fun kv => decide (kv.1 = k)) = false := by
      rw [List.any_eq_false]
      intro x hx
      simp only [decide_eq_true_eq]
      intro e
      rw [List.map_append, List.nodup_append] at h
      exact h.2.2 x.1 (List.mem_map.mpr ⟨x, hx, rfl⟩) k (by simp) e
    have e : putK kvs k v = kvs ++ [(k, v)] := by
      unfold putK
      rw [hk]
      simp
    show mergeK (putK kvs k v) more = _
    rw [e, merge_new (by rw [List.append_assoc]; exact h), List.append_assoc]
    rfl
theorem all2_lookup {F : R → V → Prop} : ∀ {ks : List Int} {rs : List R} {vs : List V} {i : Int}, All2 F rs vs → match (ks.zip rs).lookup i, (ks.zip vs).lookup i with
    | some r, some v => F r v
    | none, none => True
    | _, _ => False
  | [], _, _, _, _ => by simp
  | _ :: _, _, _, _, .nil => by simp
  | k :: ks, _, _, i, .cons h t => by
    rw [List.zip_cons_cons, List.zip_cons_cons, List.lookup_cons, List.lookup_cons]
    by_cases e : (i == k) = true
    · rw [e]; exact h
    · have e' : (i == k) = false := by simpa using e
      rw [e']
      exact all2_lookup t
theorem sim_dispGet {ks : List Int} {ts : List TE} {fs : List E} {tk td : TE} {fk fd : E} (hs : SimEs W ts fs) (hl : ks.length = ts.length) (hk : SimE W tk fk) (hd : SimE W td fd) : SimE W (tDGet2 (tDisp (tPrs ks ts)) tk td) (eDispGet ks fs fk fd) := by
  intro σ H ι ρ S H0 z S' Z N e Q hQ
  obtain ⟨rs, S1, e1, ea⟩ := zat e
  obtain ⟨k, S2, e2, eb⟩ := zat ea
  obtain ⟨d, S3, e3, ec⟩ := zat eb
  clear e ea eb
  cases qi : k.int with
  | none => rw [qi] at ec; cases ec
  | some i =>
    rw [qi] at ec
    simp only [Option.bind_some] at ec
    split at ec
    · rename_i c
      cases ec
      have := int_eq qi
      subst this
      intro p hp
      have Z0 := Z.upd (o := .dK []) hp
      have X0 : Ext ι S.length H ι S.length (upd H p (.dK [])) := Ext.upd hp
      have nb : ∀ h, h < S.length → p ≠ ι h := Z.ne_new hp
      refine sim_pairs (Hb := H) hs hl Z0 (N.ext X0 Z) e1 (fun a q => X0.dom Z0 q) _ fun vs H1 ι1 Z1 X1 R1 => ?_
      have h1 : H1 p = some (.dK []) := X1.keep p _ upd_same nb
      have nb1 := X1.apart (H := upd H p (.dK [])) upd_same nb
      have nt : ∀ us, (HO.dK []) ≠ .tup us := fun us q => by cases q
      have X01 := X0.trans X1 Z0
      refine ⟨h1, (ks.zip vs).map (fun p => ((Sum.inl p.1 : Key), p.2)), ?_, ?_, p, rfl, .inl ⟨_, .of upd_same⟩, ?_⟩
      · rw [List.map_map]; rfl
      · rw [List.length_map, List.length_zip]; exact Nat.le_trans (Nat.min_le_left _ _) c.1.2
      have Z2 := Z1.updAt (o := .dK (mergeK [] ((ks.zip vs).map fun p => ((Sum.inl p.1 : Key), p.2)))) nb1 h1 nt
      have X02 : Ext ι S.length H ι1 S1.length (upd H1 p (.dK (mergeK [] ((ks.zip vs).map fun p => ((Sum.inl p.1 : Key), p.2))))) := X01.updNew hp
      have N2 := N.ext X02 Z
      refine hk.then Z2 N2 e2 fun v2 H2 ι2 Z3 X3 N3 R3 => hd.then Z3 N3 e3 fun v3 H3 ι3 Z4 X4 N4 R4 => ?_
      cases R3
      have X34 := X3.trans X4 Z3
      have h3 : H3 p = some (.dK (mergeK [] ((ks.zip vs).map fun p => ((Sum.inl p.1 : Key), p.2)))) := X34.keep p _ upd_same nb1
      have X04 := X02.trans X34 Z2
      refine ⟨_, .inl ⟨_, Sum.inl i, .of h3, rfl, rfl⟩, ?_⟩
      have nd : (([] : List (Key × V)) ++ (ks.zip vs).map (fun p => ((Sum.inl p.1 : Key), p.2))).map (·.1) |>.Nodup := by
        rw [List.nil_append, List.map_map]
        have e5 : ((ks.zip vs).map (((fun x => x.1) : Key × V → Key) ∘ fun p => ((Sum.inl p.1 : Key), p.2))) = ((ks.zip vs).map (·.1)).map (Sum.inl : Int → Key) := by
          rw [List.map_map]; rfl
        rw [e5]
        have sub : List.Sublist ((ks.zip vs).map (·.1)) ks := by
          have : ∀ (as : List Int) (bs : List V), List.Sublist ((as.zip bs).map (·.1)) as := by
            intro as
            induction as with
            | nil => intro bs; simp
            | cons a as ih =>
              intro bs
              cases bs with
              | nil => simp
              | cons b bs => simpa using ih bs
          exact this ks vs
        have h0 : ((ks.zip vs).map (·.1)).Nodup := sub.nodup c.1.1
        exact List.pairwise_map.mpr (List.Pairwise.imp (fun {a b} (h : a ≠ b) q => h (Sum.inl.inj q)) h0)
      rw [merge_new nd, List.nil_append, lookup_valV]
      have R1u : All2 (RR W H ι1 S1.length (upd H1 p (.dK (mergeK [] ((ks.zip vs).map fun p => ((Sum.inl p.1 : Key), p.2)))))) rs vs := all2_VL h1 R1 c.2
      have lk := all2_lookup (ks := ks) (i := i) R1u
      cases qa : (ks.zip rs).lookup i with
      | none =>
        cases qb : (ks.zip vs).lookup i with
        | none => rw [qa] at hQ; exact hQ v3 H3 ι3 Z4 X04 (R4.older (fun a q => (X02.trans X3 Z2).dom Z3 q) _ _)
        | some v => rw [qa, qb] at lk; exact lk.elim
      | some r =>
        cases qb : (ks.zip vs).lookup i with
        | none => rw [qa, qb] at lk; exact lk.elim
        | some v =>
          rw [qa, qb] at lk
          rw [qa] at hQ
          exact hQ v H3 ι3 Z4 X04 (lk.ext X34 Z2)
    · cases ec
end
end Ev
namespace Ev
open PySem PySem.Spec PyProof.Rows L2
def slotIn : R → Option Sl
  | .v d => some (.v d)
  | .l xs => some (.b xs)
  | .b xs => some (.b xs)
  | .f xs => some (.f xs)
  | _ => none
def slotsIn : List R → Option (List Sl)
  | [] => some []
  | r :: rs => match slotIn r, slotsIn rs with
    | some s, some ss => some (s :: ss)
    | _, _ => none
def endOf : Option Out → Option (R × Store)
  | some (.ret r S) => some (r, S)
  | some (.next _ S) => some (.v .non, S)
  | _ => none
def runOf (n : Nat) (ev : Sx) : Ru := fun rs S => (slotsIn rs).bind fun ss => if ss.length ≤ n then endOf (ev (ss ++ List.replicate (n - ss.length) .no) S) else none
section
variable {W : Wd} {ι ι' : Nat → Addr} {n : Nat} {H H' H0 Ha : Hp} {S S' : Store}
theorem slotIn_ok {r : R} {s : Sl} {v : V} (e : slotIn r = some s) (h : RR W Ha ι n H r v) : SlOk W H0 ι n H (some v) s ∧ s.own = false := by
  cases r with
  | v d => cases e; exact ⟨⟨v, rfl, h⟩, rfl⟩
  | l xs => cases e; obtain ⟨a, vs, rfl, h1, h2, _, h4⟩ := h; exact ⟨⟨a, vs, rfl, h1, h2, h4⟩, rfl⟩
  | b xs => cases e; obtain ⟨a, vs, rfl, h1, h2, h4⟩ := h; exact ⟨⟨a, vs, rfl, h1, h2, h4⟩, rfl⟩
  | f xs => cases e; obtain ⟨a, vs, rfl, h1, h2⟩ := h; exact ⟨⟨a, vs, rfl, h1, h2⟩, rfl⟩
  | _ => cases e
theorem slotsIn_ok : ∀ {rs : List R} {ss : List Sl} {vs : List V}, slotsIn rs = some ss → All2 (RR W Ha ι n H) rs vs → All2 (fun s v => SlOk W H0 ι n H (some v) s ∧ s.own = false) ss vs
  | [], ss, vs, e, h => by cases e; cases h; exact .nil
  | r :: rs, ss, vs, e, h => by
    cases h with
    | cons h1 h2 =>
      unfold slotsIn at e
      split at e
      · rename_i s ss' q1 q2
        cases e
        exact .cons (slotIn_ok q1 h1) (slotsIn_ok q2 h2)
      · cases e
theorem entry_env {ss : List Sl} {vs : List V} {m : Nat} (h : All2 (fun s v => SlOk W H0 ι n H (some v) s ∧ s.own = false) ss vs) : REnv W H0 ι n H (ss ++ List.replicate (m - ss.length) .no) (vs.map some ++ List.replicate (m - vs.length) none) := by
  have hl := h.length
  have key : ∀ (i : Nat) s, (ss ++ List.replicate (m - ss.length) Sl.no)[i]? = some s → s.own = false ∧ ∀ o, (vs.map some ++ List.replicate (m - vs.length) none)[i]? = some o → SlOk W H0 ι n H o s := by
    intro i s e
    by_cases hi : i < ss.length
    · rw [List.getElem?_append_left hi] at e
      obtain ⟨v, e1, e2⟩ := h.get e
      refine ⟨e2.2, fun o eo => ?_⟩
      rw [List.getElem?_append_left (by rw [List.length_map, ← hl]; exact hi), List.getElem?_map, e1] at eo
      cases eo
      exact e2.1
    · rw [List.getElem?_append_right (by omega)] at e
      have e' := List.mem_of_getElem? e
      have e2 := (List.mem_replicate.mp e').2
      subst e2
      exact ⟨rfl, fun _ _ => trivial⟩
  refine ⟨by simp [hl], fun i s o e1 e2 => (key i s e1).2 o e2, fun i j s t a _ e1 _ ho => ?_⟩
  rw [(key i s e1).1] at ho
  cases ho
end
abbrev FnP (K : PySem.W.Frag) (x qual : Str) (st : Stmt) (dvs : List V) (f : Addr) (fd : FuncData) : Prop := FunD K x qual (defArgs st) (defBody st) (defScope st) dvs [] f fd
section
variable {P : Program} {w : World} {K : PySem.W.Frag} {mg : Str → Option Value} {base : Heap}
theorem fn_ok {W : Wd} {x qual : Str} {st : Stmt} {dvs : List V} {f : Addr} {fd : FuncData} {N ps : List Str} {k : Nat} {ev : Sx} (F : FnP K x qual st dvs f fd) (sc : FnScope N ps (defScope st))
    (hb : ∀ (cdv : Value) (A : Around) (outer : List PySem.Env) (s : Shared) (H : Hp) (E : XK), Room k (A.deeper (envOfC qual (defScope st) s.heap.objs.size f cdv)) →
      ∃ t, PSs (cxOf CX0 P w K mg base N qual (defScope st) f cdv A outer s H E).nox (defBody st) t ∧ SimS W t ev) :
    FnOk P w K mg base CX0 (k + 1) f fd ps (spOf W ps.length (runOf N.length ev)) := by
  refine F.ok sc (fun vs H Q E h => h.1) fun cdv A outer s H vs Q E hr h => ?_
  obtain ⟨t, h1, h2⟩ := hb cdv A outer s H E hr
  refine ⟨t, h1.nox, ?_⟩
  obtain ⟨hl, ι, S, Ha, rs, r, S', Z, hrs, hrun, hQ⟩ := h
  unfold runOf at hrun
  cases q : slotsIn rs with
  | none => rw [q] at hrun; cases hrun
  | some ss =>
    rw [q] at hrun
    simp only [Option.bind_some] at hrun
    split at hrun
    · rename_i hn
      have hs := slotsIn_ok (H0 := H) q hrs
      have N0 := entry_env (m := N.length) hs
      let B : Bas := ⟨ι, S, H, ι, 0, fun _ => none⟩
      have A0 : At W B ι (ss ++ List.replicate (N.length - ss.length) .no) S (start N vs) H :=
        ⟨Z, .refl, N0, Nat.zero_le _, fun h hh => absurd hh (Nat.not_lt_zero _), (fun a o q => by cases q), (fun a o i s q => by cases q)⟩
      cases qo : ev (ss ++ List.replicate (N.length - ss.length) .no) S with
      | none => rw [qo] at hrun; cases hrun
      | some out =>
        rw [qo] at hrun
        refine h2 B (start N vs) H ι _ S out A0 qo _ ?_
        cases out with
        | next ρ' S2 => cases hrun; exact fun σ' H' ι' A' => hQ .non H' ι' A'.Z A'.X .non
        | ret r2 S2 => cases hrun; exact fun v H' ι' Z' X' R' => hQ v H' ι' Z' X' R'
        | brk ρ' S2 => cases hrun
        | cont ρ' S2 => cases hrun
    · cases hrun
structure Kn (P : Program) (w : World) (K : PySem.W.Frag) (mg : Str → Option Value) (base : Heap) (k : Nat) (x : Str) (ps : List Str) (dvs : List V) (sp : Sp) : Prop where
  ex : ∃ (f : Addr) (fd : FuncData) (ds : List Value), FnOk P w K mg base CX0 k f fd ps sp ∧ mg x = some (.ref f) ∧ PySem.W.keepIn K (.ref f) = true ∧ Binds K fd ps ds ∧ Vals dvs ds
theorem zaD {X : Cx} {k : Nat} {x : Str} {ps : List Str} {dvs : List V} {sp : Sp} {p pos : Pos} {e : Expr} {es : List Expr} {t : TA} (G : Kn X.prog X.w X.K X.mg X.base k x ps dvs sp) (hr : Room k X.A) (hg : Gl X x) (ha : PA X (e :: es) t)
    (hdb : (x == ("__debug__" : Str)) = false := by decide) (he : starEach (e :: es) X.env = (false, eval e X.env) :: starEach es X.env := by rfl) (hpl : (backTo pos (starEach es X.env)).any (·.1) = false := by rfl) :
    PE X (.Call (.Name x p) (e :: es) [] pos) (tCall sp dvs L2.E0 t) := by
  obtain ⟨f, fd, ds, F, hm, hk, hb, hd⟩ := G.ex
  exact pe_call F hr hg hm hk hb hd L2.pass0 ha hdb he hpl
end
end Ev
namespace Ev
open PySem PySem.Spec PyProof.Rows L2
theorem u65 {A : Around} {k : Nat} (hr : Room k A) : A.units + 65 < cLine := by have := hr.un; omega
theorem u16 {A : Around} {k : Nat} (hr : Room k A) : A.units + 16 < cLine := by have := hr.un; omega
theorem bb_len : bootBuiltins "len" = some (.builtin "len") := by decide +kernel
theorem bb_abs : bootBuiltins "abs" = some (.builtin "abs") := by decide +kernel
theorem bb_max : bootBuiltins "max" = some (.builtin "max") := by decide +kernel
theorem bb_min : bootBuiltins "min" = some (.builtin "min") := by decide +kernel
theorem bb_all : bootBuiltins "all" = some (.builtin "all") := by decide +kernel
theorem bb_sorted : bootBuiltins "sorted" = some (.builtin "sorted") := by decide +kernel
theorem zah : bootBuiltins "isinstance" = some (.builtin "isinstance") := by decide +kernel
theorem bb_int : bootBuiltins "int" = some (.type "int") := by decide +kernel
theorem bb_bool : bootBuiltins "bool" = some (.type "bool") := by decide +kernel
theorem bb_str : bootBuiltins "str" = some (.type "str") := by decide +kernel
theorem bb_list : bootBuiltins "list" = some (.type "list") := by decide +kernel
theorem zaL : bootBuiltins "tuple" = some (.type "tuple") := by decide +kernel
theorem bb_set : bootBuiltins "set" = some (.type "set") := by decide +kernel
abbrev rSubI : R2 := rI0 fun i j => .int (i - j)
abbrev rDivI : R2 := rI CDiv fun i j => .int (i / j)
abbrev rModI : R2 := rI (fun _ j => 0 < j) fun i j => .int (i % j)
abbrev rPowI : R2 := rI CPow fun i j => .int (i ^ j.toNat)
abbrev rLtI : R2 := rI0 fun i j => .bl (decide (i < j))
abbrev rLeI : R2 := rI0 fun i j => .bl (decide (i ≤ j))
abbrev rGtI : R2 := rI0 fun i j => .bl (decide (j < i))
abbrev rGeI : R2 := rI0 fun i j => .bl (decide (j ≤ i))
abbrev rNegI : V → Hp → VK → Prop := rU fun i => .int (-i)
abbrev rAbsI : List V → Hp → VK → Prop := fun xs H Q => ∃ i, xs = [.int i] ∧ Q (.int (if i < 0 then -i else i)) H
abbrev rMax2I : List V → Hp → VK → Prop := fun xs H Q => ∃ i j, xs = [.int i, .int j] ∧ Q (.int (if j > i then j else i)) H
abbrev rStrI : List V → Hp → VK → Prop := fun xs H Q => ∃ i : Int, xs = [.int i] ∧ i.natAbs.log2 < 1920 ∧ Q (.str (toString i)) H
abbrev rListOf (K : PySem.W.Frag) : List V → Hp → VK → Prop := fun xs H Q => ∃ p ys, xs = [.ref p] ∧ (SqL K H p ys ∨ SqT K H p ys) ∧ ∀ l, H l = none → Q (.ref l) (upd H l (.lst ys))
abbrev rTupOf (K : PySem.W.Frag) : List V → Hp → VK → Prop := fun xs H Q => ∃ p ys, xs = [.ref p] ∧ ((SqL K H p ys ∧ ∀ l, H l = none → Q (.ref l) (upd H l (.tup ys))) ∨ (SqT K H p ys ∧ Q (.ref p) H))
theorem zbL {X : Cx} {x : Str} {i : Int} {pos : Pos} (h : ∃ t, X.mg x = some (.int i t)) (hg : Gl X x) (hd : (x == ("__debug__" : Str)) = false := by decide) : PE X (.Name x pos) (tC (.int i)) := by
  obtain ⟨t, h⟩ := h
  exact pe_glob hg h ⟨t, rfl⟩ hd
def WrT (K : PySem.W.Frag) (mg : Str → Option Value) (x : Str) (vs : List V) : Prop := ∃ a, mg x = some (.ref a) ∧ ∀ H1 : Hp, SqT K H1 a vs
def tWr (K : PySem.W.Frag) (vs : List V) : TE := fun _ H Q => ∀ a, (∀ H1 : Hp, SqT K H1 a vs) → Q (.ref a) H
theorem pe_gtup {X : Cx} {x : Str} {vs : List V} {pos : Pos} (h : WrT X.K X.mg x vs) (hg : Gl X x) (hd : (x == ("__debug__" : Str)) = false := by decide) : PE X (.Name x pos) (tWr X.K vs) := by
  obtain ⟨a, h1, h2⟩ := h
  have p : PE X (.Name x pos) (tC (.ref a)) := pe_glob hg h1 rfl hd
  exact ⟨fun pins s σ H Q I q => p.run pins s σ H Q I (q a h2)⟩
def eCst (xs : List D) : E := fun _ S => some (.c xs, S)
theorem sim_cst {W : Wd} {xs : List D} {vs : List V} (h : flatsOf xs = some vs) : SimE W (tWr W.K vs) (eCst xs) := by
  intro σ H ι ρ S H0 z S' Z N e Q hQ a ha
  cases e
  exact hQ _ H ι Z .refl ⟨a, vs, rfl, h, ha⟩
theorem zbz {X : Cx} {o i e : Expr} {to ti te : TE} {p pos : Pos} (hu : X.A.units + 16 < cLine) (ho : PE X o to) (hi : PE X i ti) (he : PE X e te)
    (h1 : swapsWithSole [.Subscript o i p] e pos.line X.env = pure false := by rfl) (h2 : swappedStores [.Subscript o i p] e X.env = pure none := by rfl) (h3 : (assignEach [.Subscript o i p] X.env).map (·.2) = [assign (.Subscript o i p) X.env] := by rfl)
    (h4 : swapsWith e (some (.Subscript o i p)) pos.line X.env = pure false := by rfl)
    (ha : ∀ v, assign (.Subscript o i p) X.env v = (do
      let ov ← holding [v] (eval o X.env)
      let iv ← holding [v, ov] (eval i X.env)
      standAt p
      holding [v, ov, iv] (setItem ov iv v)
      release [v, ov, iv] []) := by intro _; rfl) : PS X (.Assign [.Subscript o i p] e pos) (tSet to ti te) :=
  PS.or (ps_asg he (pg_sub ho hi set_list ha) h1 h2 h3) (PS.or (ps_dput (by omega) ho hi he h4) (ps_asg he (pg_sub ho hi (set_N hu) ha) h1 h2 h3))
theorem pg_unp {X : Cx} {es : List Expr} {k : Nat} {is : List Nat} {pos : Pos} (hc : X.calm = true) (h : PGs X es (gNames is)) (hn : (assignEach es X.env).length = is.length := by rfl) (hst : (assignEach es X.env).findIdx? (·.1) = none := by rfl) :
    PG X (.Tuple es k pos) (gUnp X.K is) := PG.or (pg_tup hc h hn hst) (pg_unl hc h hn hst)
theorem kn_none {P : Program} {w : World} {K : PySem.W.Frag} {mg : Str → Option Value} {base : Heap} {W : Wd} {k m : Nat} {f : Addr} {fd : FuncData} {ps : List Str} (hp : ps.length = m) : FnOk P w K mg base CX0 k f fd ps (spOf W m fun _ _ => none) :=
  ⟨fun vs H Q E h => h.1.trans hp.symm, fun A outer s H args us vs Q E _ _ _ _ h => by
    obtain ⟨_, _, _, _, _, _, _, _, _, e, _⟩ := h
    cases e⟩
end Ev
namespace Ev
open PySem PySem.Spec PyProof.Rows L2
theorem reps_nums {ι : Nat → Addr} {n : Nat} {H : Hp} : ∀ ns : List Int, Reps ι n H (ns.map D.int) (ns.map V.int)
  | [] => .nil
  | i :: ns => .cons (.int i) (reps_nums ns)
theorem wr_of {K : PySem.W.Frag} {mg : Str → Option Value} {x : Str} {vs : List He.Dv} (hm : mg x = some (.ref (He.ga K x))) (h : He.tupB K x vs = true) : WrT K mg x (vs.map (He.Dv.v K)) :=
  ⟨_, hm, fun H1 => He.tupB_ok h H1⟩
end Ev
namespace Ev
open PySem L2
section
variable {W : Wd} {B : Bas} {ι ι' ι1 ι0 : Nat → Addr} {n n' : Nat} {H H' H0 H1 : Hp} {S S' S1 S0 : Store} {ρ : Env} {σ : St}
end
end Ev
namespace Ev
open PySem L2
section
variable {W : Wd} {B : Bas} {ι ι' ι1 ι2 ι0 : Nat → Addr} {n n' n2 : Nat} {H H' H0 H1 H2 : Hp} {S S' S1 S0 : Store} {ρ : Env} {σ : St}
end
end Ev
namespace Ev
open PySem L2
def lexLe (x y : Int × Int) : Bool := decide (x.1 < y.1) || (decide (x.1 = y.1) && decide (x.2 ≤ y.2))
theorem lexLe_iff {x y : Int × Int} : lexLe x y = true ↔ x.1 < y.1 ∨ (x.1 = y.1 ∧ x.2 ≤ y.2) := by
  unfold lexLe; simp
def insP (x : Int × Int) : List (Int × Int) → List (Int × Int)
  | [] => [x]
  | y :: r => if lexLe x y = true then x :: y :: r else y :: insP x r
def sortP : List (Int × Int) → List (Int × Int)
  | [] => []
  | x :: r => insP x (sortP r)
theorem insP_perm (x : Int × Int) : ∀ r, (insP x r).Perm (x :: r)
  | [] => .refl _
  | y :: r => by
    unfold insP
    split
    · exact .refl _
    · exact ((insP_perm x r).cons y).trans (.swap x y r)
theorem insP_sorted (x : Int × Int) : ∀ r, r.Pairwise (fun a b => lexLe a b = true) → (insP x r).Pairwise (fun a b => lexLe a b = true)
  | [], _ => by simp [insP]
  | y :: r, h => by
    unfold insP
    rw [List.pairwise_cons] at h
    split
    · rename_i c
      rw [List.pairwise_cons, List.pairwise_cons]
      refine ⟨fun z hz => ?_, h⟩
      rcases List.mem_cons.mp hz with e | hz
      · rw [e]; exact c
      · have := h.1 z hz
        rw [lexLe_iff] at this c ⊢
        omega
    · rename_i c
      rw [List.pairwise_cons]
      refine ⟨fun z hz => ?_, insP_sorted x r h.2⟩
      rcases List.mem_cons.mp ((insP_perm x r).mem_iff.mp hz) with e | hz
      · subst e
        rw [lexLe_iff] at c ⊢
        omega
      · exact h.1 z hz
theorem sortP_perm : ∀ r, (sortP r).Perm r
  | [] => .refl _
  | x :: r => (insP_perm x _).trans ((sortP_perm r).cons x)
theorem sortP_sorted : ∀ r, (sortP r).Pairwise (fun a b => lexLe a b = true)
  | [] => .nil
  | x :: r => insP_sorted x _ (sortP_sorted r)
theorem pair_same : ∀ {l m : List (Int × Int)}, l.Perm m → l.Pairwise (fun a b => lexLe a b = true) → m.Pairwise (fun a b => lexLe a b = true) → l = m
  | [], m, h, _, _ => h.symm.eq_nil.symm
  | x :: l, [], h, _, _ => by have := h.length_eq; simp at this
  | x :: l, y :: m, h, hl, hm => by
    rw [List.pairwise_cons] at hl hm
    have e : x = y := by
      rcases List.mem_cons.mp (h.mem_iff.mp (List.mem_cons_self (a := x) (l := l))) with e | hx
      · exact e
      · rcases List.mem_cons.mp (h.mem_iff.mpr (List.mem_cons_self (a := y) (l := m))) with e | hy
        · exact e.symm
        · have h1 := lexLe_iff.mp (hl.1 y hy)
          have h2 := lexLe_iff.mp (hm.1 x hx)
          obtain ⟨x1, x2⟩ := x
          obtain ⟨y1, y2⟩ := y
          simp only at h1 h2
          congr 1 <;> omega
    subst e
    rw [pair_same (h.cons_inv) hl.2 hm.2]
theorem sortP_unique {l m : List (Int × Int)} (h : l.Perm m) (hs : l.Pairwise (fun a b => lexLe a b = true)) : l = sortP m := pair_same (h.trans (sortP_perm m).symm) hs (sortP_sorted m)
def keyP (p : Int × Int) : List Key := [Sum.inl p.1, Sum.inl p.2]
def PairAt (H : Hp) (p : Int × Int) (v : V) : Prop := ∃ q, v = .ref q ∧ H q = some (.tup [.int p.1, .int p.2])
def rSortDT : List V → Hp → VK → Prop := fun vs H Q => ∃ (a : Addr) (kvs : List (List Key × V)) (ks : List (Int × Int)), vs = [.ref a] ∧ H a = some (.dT kvs) ∧ kvs.map (·.1) = ks.map keyP ∧
  ∀ ys p, All2 (PairAt H) (sortP ks) ys → H p = none → Q (.ref p) (upd H p (.lst ys))
def numsAt (H : Hp) (v : V) : Int × Int := match v with
  | .ref q => (match H q with
    | some (.tup [.int i, .int j]) => (i, j)
    | _ => (0, 0))
  | _ => (0, 0)
theorem numsAt_of {H : Hp} {p : Int × Int} {v : V} (h : PairAt H p v) : numsAt H v = p := by
  obtain ⟨q, rfl, e⟩ := h
  unfold numsAt
  simp only [e]
theorem all2_map_mem {α β : Type} {F : α → β → Prop} {f : β → α} : ∀ {m : List β}, (∀ b ∈ m, F (f b) b) → All2 F (m.map f) m
  | [], _ => .nil
  | b :: m, h => .cons (h b List.mem_cons_self) (all2_map_mem fun b hb => h b (List.mem_cons_of_mem _ hb))
open PyProof.Rows in theorem cr_sortedDT {X : Cx} (hc : X.calm = true) : CallR X (.builtin "sorted") rSortDT := by
  intro pins s σ H vs us Q I r ⟨a, kvs, ks, e0, ha, hks, q⟩
  subst e0
  obtain ⟨u, eu, ru⟩ := vals1 r
  subst eu
  obtain rfl : u = Value.ref a := ru
  obtain ⟨z, hd, zs, rel, o, es, ep, ho, hx, hdat, hes, _, _⟩ := dt_of I.hok ha
  have l1 : kvs.length = zs.length := Paired.length rel
  have l2 : es.size = zs.length := size_of_entries hes
  have l3 : kvs.length = ks.length := by have := congrArg List.length hks; simpa using this
  have raw : s.heap.DictRaw a es ep := ⟨o, ho, hx, hdat⟩
  have ent : ∀ (i : Nat) (v : Value) (hi : i < es.size), v = es[i].key → ∃ q p, v = .ref q ∧ ks[i]? = some p ∧ H q = some (.tup [.int p.1, .int p.2]) := fun i v hi ev => by
    have e1 : es[i]? = some es[i] := by simp [hi]
    rw [entry_at hes i] at e1
    cases hz : zs[i]? with
    | none => rw [hz] at e1; cases e1
    | some w =>
      rw [hz] at e1
      have e2 : entryOfKey (tupleKind (mixKind X.prog X.w)) w = es[i] := Option.some.inj e1
      obtain ⟨y, y1, y2, y3, _⟩ := L2.DX.pget rel hz
      have y4 : (kvs.map (·.1))[i]? = some y.1 := by rw [List.getElem?_map, y1]; rfl
      rw [hks, List.getElem?_map] at y4
      cases hk : ks[i]? with
      | none => rw [hk] at y4; cases y4
      | some p =>
        rw [hk] at y4
        have y5 : keyP p = y.1 := Option.some.inj y4
        rw [← y5] at y3
        exact ⟨w.2.1, p, by rw [ev, ← e2]; rfl, rfl, y3⟩
  refine Calls.call_function_entry kind_sorted plain_sorted entry_sorted (args_sorted1 _) ?_
  unfold Builtin.«sorted»
  refine wpAny_bind (m := checkCount "sorted" 1 1 _) (wpAny_pure ?_)
  refine wpAny_bind (PySem.W.kdu_collect (A := X.A.in1) (KdlSrc.rawDict (es := es) (ep := ep) hd) (I.ok.hd hc) raw (by rw [l2, ← l1]; exact z) fun h2 tk acc hk hacc => ?_)
  have hal : acc.toList.length = ks.length := by rw [Array.length_toList, hacc.1]; omega
  have hz2 : acc.toList.length ≤ sizeLine := by rw [hal, ← l3]; exact z
  have prs : ∀ (i : Nat) (v : Value), acc.toList[i]? = some v → ∃ q p, v = .ref q ∧ ks[i]? = some p ∧ H q = some (.tup [.int p.1, .int p.2]) := fun i v e => by
    obtain ⟨hi, ev⟩ := hacc.2 i v (by rw [← Array.getElem?_toList]; exact e)
    exact ent i v hi ev
  have refs : ∀ v ∈ acc.toList, ∃ b, v = Value.ref b := fun v hv => by
    obtain ⟨i, hi⟩ := List.mem_iff_getElem?.mp hv
    obtain ⟨q, _, e, _⟩ := prs i v hi
    exact ⟨q, e⟩
  have I1 : Inv X pins σ H { s with heap := h2, toks := tk } := I.kept hk
  have kv : acc.toList.map (fun v => numsAt H (backV v)) = ks := by
    refine List.ext_getElem? fun i => ?_
    rw [List.getElem?_map]
    by_cases hi : i < acc.toList.length
    · have e1 : acc.toList[i]? = some acc.toList[i] := by rw [List.getElem?_eq_getElem hi]
      obtain ⟨q, p, e2, e3, e4⟩ := prs i _ e1
      rw [e1, e3]
      show some _ = some _
      rw [e2]
      exact congrArg some (numsAt_of ⟨q, rfl, e4⟩)
    · rw [List.getElem?_eq_none (by omega), List.getElem?_eq_none (by omega)]
      rfl
  refine wpAny_bind (wpAny_newList ?_ hz2)
  have hoL : (h2.push (seqObj "list" acc.toList.toArray 0)).get? h2.objs.size = some (seqObj "list" acc.toList.toArray 0) := Heap.get?_push_size _ rfl
  show wpAny _ _ _ _ _ { s with heap := h2.push (seqObj "list" acc.toList.toArray 0), toks := tk }
  refine wpAny_bind (wpAny_holding (wpAny_call_entry slot_list_sort ⟨_, hoL, rfl⟩ entry_list_sort
    (SrtO.list_sort_ord (s := { s with heap := h2.push (seqObj "list" acc.toList.toArray 0), toks := tk }) (SrtO.swo_lex fun v => numsAt H (backV v)) hoL hz2
      (fun hge => SrtO.pairs_sortableO (s := { s with heap := h2.push (seqObj "list" acc.toList.toArray 0), toks := tk }) (by omega) (fun v hv => ?_) (fun ob eo => ?_)) fun out s1 s2 => ⟨_, rfl, ?_⟩) (args_list_sort _)))
  · obtain ⟨i, hi⟩ := List.mem_iff_getElem?.mp hv
    obtain ⟨q, p, e2, e3, e4⟩ := prs i _ hi
    subst e2
    rw [show numsAt H (backV (Value.ref q)) = p from numsAt_of ⟨q, rfl, e4⟩]
    obtain ⟨_, its2, r2, o2, ho2, hc2, n2, hd2⟩ := I1.hok _ _ e4
    obtain ⟨u1, u2, e5, ri, rj⟩ := vals2 r2
    subst e5
    obtain ⟨t1, rfl⟩ := ri
    obtain ⟨t2, rfl⟩ := rj
    exact ⟨q, o2, t1, t2, n2, rfl, Heap.get?_push_of_some _ ho2, hc2, hd2⟩
  · have e6 : some ob = some (seqObj "list" acc.toList.toArray 0) := eo.symm.trans hoL
    cases e6
    intro cc
    exact absurd (Value.type.inj cc) (by decide)
  · have refs2 : ∀ u ∈ out, ∃ b, u = Value.ref b := fun u hu => refs u (s2.perm.mem_iff.mp hu)
    obtain ⟨n, hn⟩ := sortedHeap_at (vs := acc.toList) (out := out.toArray) hoL
    have kp : ∀ b ob, h2.get? b = some ob → (sortedHeap (h2.push (seqObj "list" acc.toList.toArray 0)) h2.objs.size acc.toList out.toArray).get? b = some ob := fun b ob e => by
      have hb : b < h2.objs.size := Heap.lt_size e
      rw [sortedHeap_old (Nat.ne_of_lt hb) (by rw [size_push']; exact Nat.lt_succ_of_lt hb)]
      exact Heap.get?_push_of_some _ e
    have key : out.map (fun v => numsAt H (backV v)) = sortP ks := by
      refine sortP_unique ?_ ?_
      · rw [← kv]
        exact s2.perm.map _
      · refine List.pairwise_map.mpr (List.Pairwise.imp (fun {x y} h => ?_) s1)
        have h' := SrtO.lexB_no.mp h
        rw [lexLe_iff]
        omega
    have mem : ∀ b ∈ out.map backV, PairAt H (numsAt H b) b := fun b hb => by
      obtain ⟨v, hv, rfl⟩ := List.mem_map.mp hb
      obtain ⟨i, hi⟩ := List.mem_iff_getElem?.mp (s2.perm.mem_iff.mp hv)
      obtain ⟨q, p, e2, _, e4⟩ := prs i _ hi
      subst e2
      rw [show numsAt H (backV (Value.ref q)) = p from numsAt_of ⟨q, rfl, e4⟩]
      exact ⟨q, rfl, e4⟩
    have fin : All2 (PairAt H) (sortP ks) (out.map backV) := by
      rw [← key]
      have := all2_map_mem (f := numsAt H) mem
      rw [List.map_map] at this
      exact this
    refine wpAny_pure ⟨_, rfl, .ref h2.objs.size, upd H h2.objs.size (.lst (out.map backV)), I1.laid (t' := tk) kp (Nat.le_refl _) ⟨?_, out, n, vals_back refs2, hn⟩, rfl, q _ _ fin (I1.hok.fresh (Nat.le_refl _))⟩
    rw [List.length_map, s2.len]
    exact hz2
end Ev
namespace Ev
open PySem L2
def ItK : Bool → Heap → Addr → Addr → Nat → Prop
  | true, h, it, l, i => h.IsTupleIter it l i
  | false, h, it, l, i => h.IsListIter it l i
def SqK : Bool → Heap → Addr → Array Value → Prop
  | true, h, l, xs => h.IsTuple l xs
  | false, h, l, xs => h.IsList l xs
section
variable {t : Bool} {h h' : Heap} {it l c : Addr} {i : Nat} {xs : Array Value}
theorem ItK.ext (q : ItK t h it l i) (x : Heap.ExtBut c h h') (n : it ≠ c) : ItK t h' it l i := by
  cases t with
  | true => exact Heap.IsTupleIter.extBut q x n
  | false => exact Heap.IsListIter.extBut q x n
theorem SqK.ext (q : SqK t h l xs) (x : Heap.ExtBut c h h') (n : l ≠ c) : SqK t h' l xs := by
  cases t with
  | true => exact Heap.IsTuple.extBut q x n
  | false => exact Heap.IsList.extBut q x n
theorem SqK.push (q : SqK t h l xs) (o : Obj) : SqK t (h.push o) l xs := by
  cases t with
  | true => exact Heap.IsTuple.push q o
  | false => exact Heap.IsList.push q o
theorem ItK.at_ (q : ItK t h it l i) (k : ∀ o, h.get? it = some o → h'.get? it = some o) : ItK t h' it l i := by
  cases t with
  | true => exact Heap.IsTupleIter.at q k
  | false => exact Heap.IsListIter.at q k
end
section
variable {prog : Program} {w : World} {A : Around} {E : Value → Shared → Prop} {s : Shared} {t : Bool} {it l : Addr} {i : Nat} {xs : Array Value}
end
structure ZAt (t1 t2 : Bool) (h : Heap) (z TI TO i1 i2 l1 l2 : Addr) (k : Nat) : Prop where
  z : IsZip h z TI TO .none
  ti : IsPair h TI (.ref i1) (.ref i2)
  to : ∃ a b, IsPair h TO a b
  a : ItK t1 h i1 l1 k
  b : ItK t2 h i2 l2 k
section
variable {prog : Program} {w : World} {A : Around} {E : Value → Shared → Prop} {s : Shared} {t1 t2 : Bool} {z TI TO i1 i2 l1 l2 : Addr} {k : Nat} {xs ys : Array Value}
end
end Ev
namespace Ev
open PySem L2
section
variable {prog : Program} {w : World} {A : Around} {E : Value → Shared → Prop} {s : Shared} {t1 t2 : Bool} {z TI TO i1 i2 l1 l2 : Addr} {k : Nat} {xs ys : Array Value}
end
def SqV (K : PySem.W.Frag) : Bool → Hp → Addr → List V → Prop
  | true, H, a, xs => SqT K H a xs
  | false, H, a, xs => SqL K H a xs
section
variable {X : Cx} {pins : List (Addr × Obj)} {σ : St} {H : Hp} {s : Shared} {t : Bool} {a : Addr} {xs ys : List V}
end
end Ev
namespace Ev
open PySem L2
section
variable {W : Wd} {ι ι' ι1 : Nat → Addr} {n n' : Nat} {H H' H0 H1 Ha : Hp} {S S' S1 : Store} {ρ : Env} {σ : St}
def ZRep (ι : Nat → Addr) (n : Nat) (H : Hp) (t : Bool) (xs : List D) (a : Addr) (vs : List V) : Prop := Reps ι n H xs vs ∧ match t with
  | true => H a = some (.tup vs)
  | false => H a = some (.lst vs) ∧ ∀ h, h < n → a ≠ ι h
theorem ZRep.keep {t : Bool} {xs : List D} {a : Addr} {vs : List V} (h : ZRep ι n H t xs a vs) (le : n ≤ n') (sm : ∀ h, h < n → ι' h = ι h) (kt : ∀ b ws, H b = some (.tup ws) → H' b = some (.tup ws)) (ka : ∀ o, H a = some o → H' a = some o) :
    Reps ι' n' H' xs vs ∧ ∀ K : PySem.W.Frag, SqV K t H' a vs := by
  obtain ⟨h1, h2⟩ := h
  refine ⟨Reps.mono le sm kt _ _ h1, fun K => ?_⟩
  cases t with
  | true => exact .of (ka _ h2)
  | false => exact .of (ka _ h2.1)
def pair1 : D → Option (Int × Int)
  | .tup [.int i, .int j] => some (i, j)
  | _ => none
def pairs1 : List D → Option (List (Int × Int))
  | [] => some []
  | d :: ds => match pair1 d, pairs1 ds with
    | some p, some ps => some (p :: ps)
    | _, _ => none
def pairD (p : Int × Int) : D := .tup [.int p.1, .int p.2]
theorem pair1_eq {d : D} {p : Int × Int} (h : pair1 d = some p) : d = pairD p := by
  unfold pair1 at h
  split at h
  · cases h; rfl
  · cases h
theorem pairs1_eq : ∀ {ds : List D} {ps : List (Int × Int)}, pairs1 ds = some ps → ds = ps.map pairD
  | [], _, h => by cases h; rfl
  | d :: ds, ps, h => by
    unfold pairs1 at h
    split at h
    · rename_i p ps' h1 h2
      cases h
      rw [pair1_eq h1, pairs1_eq h2]
      rfl
    · cases h
def gSortedD (S : Store) (xs : List R) : Option R := match xs with
  | [x] => (match x.dicR S with
    | some (.K, kvs) => (ints1 (kvs.map (·.1))).bind fun ns => if ns.length < 64 then some (.l ((sortI ns).map D.int)) else none
    | some (.T, kvs) => (pairs1 (kvs.map (·.1))).map fun ps => .l ((sortP ps).map pairD)
    | _ => none)
  | _ => none
def rSortDK : List V → Hp → VK → Prop := fun xs H Q => ∃ (a : Addr) (kvs : List (Key × V)) (ks : List Int), xs = [.ref a] ∧ Rd H a (.dK kvs) ∧ kvs.map (·.1) = ks.map Sum.inl ∧ ks.length < 64 ∧
  ∀ (ys : List Int) (p : Addr), ys.Perm ks → ys.Pairwise (· ≤ ·) → H p = none → Q (.ref p) (upd H p (.lst (ys.map V.int)))
def rSortD : List V → Hp → VK → Prop := fun xs H Q => rSortDK xs H Q ∨ rSortDT xs H Q
theorem cr_sortedD {X : Cx} (hc : X.calm = true) : CallR X (.builtin "sorted") rSortD := fun pins s σ H xs us Q I r h => h.elim (fun q => call_sortedDI hc pins s σ H xs us Q I r q) (fun q => cr_sortedDT hc pins s σ H xs us Q I r q)
theorem reps_pairs {H : Hp} : ∀ {ps : List (Int × Int)} {ys : List V}, All2 (PairAt H) ps ys → Reps ι n H (ps.map pairD) ys
  | _, _, .nil => .nil
  | _, _, .cons h t => by
    obtain ⟨q, rfl, e⟩ := h
    exact .cons (.tup e (.cons (.int _) (.cons (.int _) .nil))) (reps_pairs t)
theorem sim_sortedD : SimC W rSortD gSortedD := by
  intro H ι S Ha xs z vs Z hx e Q hQ
  unfold gSortedD at e
  split at e
  · rename_i x
    obtain ⟨v, rfl, r⟩ := zbK hx
    split at e
    · rename_i kvs q
      cases qn : ints1 (kvs.map (·.1)) with
      | none => rw [qn] at e; cases e
      | some ns =>
        rw [qn] at e
        simp only [Option.bind_some] at e
        split at e
        · rename_i hl
          cases e
          obtain ⟨a, rfl, kv, rd, rel⟩ := dic_rep Z r q
          refine .inl ⟨a, kv, ns, rfl, rd, ?_, hl, fun ns' p hp hs hn => ?_⟩
          · have e1 := ints1_eq qn
            have go : ∀ {ps : List (D × D)} {qs : List (Key × V)} {is : List Int}, All2 (fun (p : D × D) (q : Key × V) => p.1 = keyD q.1 ∧ Rep ι S.length H p.2 q.2) ps qs → ps.map (·.1) = is.map D.int → qs.map (·.1) = is.map Sum.inl := by
              intro ps qs is h
              induction h generalizing is with
              | nil => intro e; cases is with
                | nil => rfl
                | cons i is => simp at e
              | @cons p q ps qs hp t ih => intro e; cases is with
                | nil => simp at e
                | cons i is =>
                  simp only [List.map_cons, List.cons.injEq] at e ⊢
                  refine ⟨?_, ih e.2⟩
                  have e3 : keyD q.1 = .int i := hp.1.symm.trans e.1
                  exact keyD_inj (b := Sum.inl i) e3
            exact go rel e1
          · rw [sortI_unique hp hs]
            exact new_lst Z hn ints_reps hQ
        · cases e
    · rename_i kvs q
      cases qn : pairs1 (kvs.map (·.1)) with
      | none => rw [qn] at e; cases e
      | some ps =>
        rw [qn] at e
        cases e
        obtain ⟨a, rfl, kv, rd, rel⟩ := dic_rep Z r q
        refine .inr ⟨a, kv, ps, rfl, rd, ?_, fun ys p hp hn => ?_⟩
        · have e1 := pairs1_eq qn
          have go : ∀ {as : List (D × D)} {qs : List (List Key × V)} {is : List (Int × Int)}, All2 (fun (p : D × D) (q : List Key × V) => p.1 = .tup (q.1.map keyD) ∧ Rep ι S.length H p.2 q.2) as qs → as.map (·.1) = is.map pairD → qs.map (·.1) = is.map keyP := by
            intro as qs is h
            induction h generalizing is with
            | nil => intro e; cases is with
              | nil => rfl
              | cons i is => simp at e
            | @cons p q as qs hp t ih => intro e; cases is with
              | nil => simp at e
              | cons i is =>
                simp only [List.map_cons, List.cons.injEq] at e ⊢
                refine ⟨?_, ih e.2⟩
                have e3 : D.tup (q.1.map keyD) = .tup ((keyP i).map keyD) := hp.1.symm.trans e.1
                injection e3 with e3
                exact List.map_inj_right (fun _ _ => keyD_inj) |>.mp e3
          exact go rel e1
        · exact new_lst Z hn (reps_pairs hp) hQ
    · cases e
  · cases e
end
end Ev
namespace Ev
open PySem L2
section
variable {W : Wd} {B : Bas} {ι ι' ι1 : Nat → Addr} {n n' : Nat} {H H' H0 H1 Ha : Hp} {S S' S1 : Store} {ρ : Env} {σ : St}
end
end Ev
namespace Ev
open PySem PySem.Spec PyProof.Rows L2
structure KnM (P : Program) (w : World) (K : PySem.W.Frag) (mg : Str → Option Value) (base : Heap) (k : Nat) (C : Addr) (m : Str) (ps : List Str) (sp : Sp) : Prop where
  ex : ∃ (f : Addr) (fd : FuncData), FnOk P w K mg base CX0 k f fd ps sp ∧ Meth K C m f ∧ Binds K fd ps []
structure KnI (P : Program) (w : World) (K : PySem.W.Frag) (mg : Str → Option Value) (base : Heap) (k : Nat) (C : Addr) (x : Str) (ps : List Str) (sp : Sp) : Prop where
  ex : ∃ (f : Addr) (fd : FuncData), FnOk P w K mg base CX0 k f fd ps sp ∧ Mk K C f ∧ Binds K fd ps [] ∧ mg x = some (.ref C)
section
variable {X : Cx} {k : Nat} {C : Addr} {m x : Str} {ps : List Str} {sp : Sp} {o e : Expr} {es : List Expr} {to : TE} {t : TA} {apos pos p : Pos}
end
end Ev
namespace Ev
open PySem PySem.Spec PyProof.Rows L2
section
variable {prog : Program} {w : World} {A : Around} {E : Value → Shared → Prop} {s : Shared} {l : Addr} {xs : Array (Int × Tok)}
end
section
variable {X : Cx}
end
section
variable {W : Wd} {K : PySem.W.Frag}
end
end Ev
namespace Ev
open PySem PySem.Spec PyProof.Rows L2
section
variable {W : Wd} {ι : Nat → Addr} {n : Nat} {H : Hp}
end
end Ev
namespace Ev
open PySem L2
section
variable {ρ : Env} {S : Store}
def iteB {α : Type} (x : Option Bool) (a b : Option α) : Option α := match x with
  | some true => a
  | some false => b
  | none => none
@[simp] theorem iteB_s {α : Type} {x : Bool} {a b : Option α} : iteB (some x) a b = if x = true then a else b := by cases x <;> rfl
@[simp] theorem iteB_n {α : Type} {a b : Option α} : iteB none a b = none := rfl
@[simp] theorem zaG {α β : Type} {x : α} {f : α → Store → Option β} : bnd (some (x, S)) f = f x S := rfl
@[simp] theorem bnd_n {α β : Type} {f : α → Store → Option β} : bnd none f = none := rfl
@[simp] theorem eLit_ {d : D} : eLit d ρ S = some (.v d, S) := rfl
@[simp] theorem eTrue_ : eTrue ρ S = some (.v (.bl true), S) := rfl
@[simp] theorem eCst_ {xs : List D} : eCst xs ρ S = some (.c xs, S) := rfl
def rdSl (s : Option Sl) : Option R := match s with
  | some (.v d) => some (.v d)
  | some (.l xs) => some (.b xs)
  | some (.b xs) => some (.b xs)
  | some (.f xs) => some (.f xs)
  | some (.d k kvs) => some (.bd k kvs)
  | _ => none
@[simp] theorem rdSl_v {d : D} : rdSl (some (.v d)) = some (.v d) := rfl
@[simp] theorem rdSl_l {d : List D} : rdSl (some (.l d)) = some (.b d) := rfl
@[simp] theorem rdSl_b {d : List D} : rdSl (some (.b d)) = some (.b d) := rfl
@[simp] theorem rdSl_f {d : List D} : rdSl (some (.f d)) = some (.f d) := rfl
@[simp] theorem rdSl_d {k : DK} {d : List (D × D)} : rdSl (some (.d k d)) = some (.bd k d) := rfl
@[simp] theorem eVar_ {i : Nat} : eVar i ρ S = (rdSl ρ[i]?).map fun r => (r, S) := by
  unfold eVar rdSl
  cases ρ[i]? with
  | none => rfl
  | some s => cases s <;> rfl
@[simp] theorem eBin_ {g : Store → R → R → Option R} {fa fb : E} : eBin g fa fb ρ S = bnd (fa ρ S) fun x S1 => bnd (fb ρ S1) fun y S2 => (g S2 x y).map fun z => (z, S2) := rfl
@[simp] theorem eUn_ {g : Store → R → Option R} {fa : E} : eUn g fa ρ S = bnd (fa ρ S) fun x S1 => (g S1 x).map fun z => (z, S1) := rfl
@[simp] theorem R.bool_bl {b : Bool} : (R.v (.bl b)).bool = some b := rfl
@[simp] theorem R.int_int {i : Int} : (R.v (.int i)).int = some i := rfl
@[simp] theorem R.flat_v {d : D} : (R.v d).flat = some d := rfl
@[simp] theorem eAnd_ {fa fb : E} : eAnd fa fb ρ S = bnd (fa ρ S) fun x S1 => iteB x.bool (fb ρ S1) (some (.v (.bl false), S1)) := by
  unfold eAnd iteB; cases fa ρ S with
  | none => rfl
  | some p =>
    simp only [bnd]
    all_goals
      cases p.1.bool with
      | none => rfl
      | some b => cases b <;> rfl
@[simp] theorem eOr_ {fa fb : E} : eOr fa fb ρ S = bnd (fa ρ S) fun x S1 => iteB x.bool (some (.v (.bl true), S1)) (fb ρ S1) := by
  unfold eOr iteB; cases fa ρ S with
  | none => rfl
  | some p =>
    simp only [bnd]
    all_goals
      cases p.1.bool with
      | none => rfl
      | some b => cases b <;> rfl
@[simp] theorem eIf_ {ft fa fb : E} : eIf ft fa fb ρ S = bnd (ft ρ S) fun x S1 => iteB x.bool (fa ρ S1) (fb ρ S1) := by
  unfold eIf iteB; rfl
@[simp] theorem gNot_ {b : Bool} : gNot S (.v (.bl b)) = some (.v (.bl !b)) := rfl
@[simp] theorem gIsN_ {x : R} : gIsN S x = some (.v (.bl x.isNone)) := rfl
@[simp] theorem gNotN_ {x : R} : gNotN S x = some (.v (.bl (!x.isNone))) := rfl
@[simp] theorem isNone_v {d : D} : (R.v d).isNone = decide (d = .non) := by cases d <;> simp [R.isNone]
@[simp] theorem isNone_l {d : List D} : (R.l d).isNone = false := rfl
@[simp] theorem isNone_b {d : List D} : (R.b d).isNone = false := rfl
@[simp] theorem gAddI {i j : Int} : gAdd S (.v (.int i)) (.v (.int j)) = some (.v (.int (i + j))) := rfl
@[simp] theorem gSubI {i j : Int} : Ev.gSub S (.v (.int i)) (.v (.int j)) = some (.v (.int (i - j))) := rfl
@[simp] theorem gLtI {i j : Int} : gLt S (.v (.int i)) (.v (.int j)) = some (.v (.bl (decide (i < j)))) := rfl
@[simp] theorem gLeI {i j : Int} : gLe S (.v (.int i)) (.v (.int j)) = some (.v (.bl (decide (i ≤ j)))) := rfl
@[simp] theorem gGtI {i j : Int} : gGt S (.v (.int i)) (.v (.int j)) = some (.v (.bl (decide (j < i)))) := rfl
@[simp] theorem gGeI {i j : Int} : gGe S (.v (.int i)) (.v (.int j)) = some (.v (.bl (decide (j ≤ i)))) := rfl
theorem gModI {i j : Int} (h : 0 < j) : gMod S (.v (.int i)) (.v (.int j)) = some (.v (.int (i % j))) := by simp [gMod, gI, h]
theorem gFdivI {i j : Int} (h : 0 < j) (h' : j < 1073741824) : gFdiv S (.v (.int i)) (.v (.int j)) = some (.v (.int (i / j))) := by simp [gFdiv, gI, h, h']
theorem gMulI {i j : Int} (h : (small64 i || small64 j) = true) : gMul S (.v (.int i)) (.v (.int j)) = some (.v (.int (i * j))) := by simp [gMul, h]
def eqD (a b : D) : Bool := PyData.eqv (toPD a) (toPD b)
def eqDs (a b : List D) : Bool := PyData.eqvAll (toPDs a) (toPDs b)
@[simp] theorem eqD_int {i j : Int} : eqD (.int i) (.int j) = decide (i = j) := by simp [eqD, toPD, PyData.eqv]; rfl
@[simp] theorem eqD_str {i j : Str} : eqD (.str i) (.str j) = decide (i = j) := by simp [eqD, toPD, PyData.eqv]; rfl
@[simp] theorem eqD_bl {i j : Bool} : eqD (.bl i) (.bl j) = decide (i = j) := by cases i <;> cases j <;> simp [eqD, toPD, PyData.eqv]
@[simp] theorem eqD_tup {a b : List D} : eqD (.tup a) (.tup b) = eqDs a b := by simp [eqD, toPD, PyData.eqv, eqDs]
@[simp] theorem eqDs_nil : eqDs [] [] = true := by simp [eqDs, toPDs, PyData.eqvAll]
@[simp] theorem eqDs_cons {a b : D} {as bs : List D} : eqDs (a :: as) (b :: bs) = (eqD a b && eqDs as bs) := by simp [eqDs, eqD, toPDs, PyData.eqvAll]
@[simp] theorem eqDs_nc {b : D} {bs : List D} : eqDs [] (b :: bs) = false := by simp [eqDs, toPDs, PyData.eqvAll]
@[simp] theorem eqDs_cn {b : D} {bs : List D} : eqDs (b :: bs) [] = false := by simp [eqDs, toPDs, PyData.eqvAll]
@[simp] theorem eqD_int_str {i : Int} {j : Str} : eqD (.int i) (.str j) = false := by simp [eqD, toPD, PyData.eqv]
@[simp] theorem eqD_str_int {i : Int} {j : Str} : eqD (.str j) (.int i) = false := by simp [eqD, toPD, PyData.eqv]
@[simp] theorem eqD_int_tup {i : Int} {j : List D} : eqD (.int i) (.tup j) = false := by simp [eqD, toPD, PyData.eqv]
@[simp] theorem eqD_tup_int {i : Int} {j : List D} : eqD (.tup j) (.int i) = false := by simp [eqD, toPD, PyData.eqv]
@[simp] theorem eqD_bl_tup {i : Bool} {j : List D} : eqD (.bl i) (.tup j) = false := by cases i <;> simp [eqD, toPD, PyData.eqv]
@[simp] theorem eqD_tup_bl {i : Bool} {j : List D} : eqD (.tup j) (.bl i) = false := by cases i <;> simp [eqD, toPD, PyData.eqv]
theorem lseq_ok {n : Nat} {a : D} (ha : okN n a = true) : (R.v a).lseq S = none := by
  cases a with
  | ob h => cases n <;> cases ha
  | _ => rfl
theorem pd_v {a : D} (ha : okN 60 a = true) : (R.v a).pd S = some (toPD a) := by
  unfold R.pd
  rw [lseq_ok ha]
  simp [ha]
theorem gEqV {a b : D} (ha : okN 60 a = true) (hb : okN 60 b = true) : gEq S (.v a) (.v b) = some (.v (.bl (eqD a b))) := by
  unfold gEq
  rw [pd_v ha, pd_v hb]
  rfl
theorem gNeV {a b : D} (ha : okN 60 a = true) (hb : okN 60 b = true) : gNe S (.v a) (.v b) = some (.v (.bl (!eqD a b))) := by
  unfold gNe
  rw [pd_v ha, pd_v hb]
  rfl
@[simp] theorem gEqI {i j : Int} : gEq S (.v (.int i)) (.v (.int j)) = some (.v (.bl (decide (i = j)))) := by
  rw [gEqV rfl rfl, eqD_int]
@[simp] theorem gNeI {i j : Int} : gNe S (.v (.int i)) (.v (.int j)) = some (.v (.bl (!decide (i = j)))) := by
  rw [gNeV rfl rfl, eqD_int]
@[simp] theorem gIx_tup {xs : List D} {i : Int} : gIx S (.v (.tup xs)) (.v (.int i)) = (atI xs i).map .v := rfl
@[simp] theorem gIx_b {xs : List D} {i : Int} : gIx S (.b xs) (.v (.int i)) = (atI xs i).map .v := rfl
@[simp] theorem gIx_l {xs : List D} {i : Int} : gIx S (.l xs) (.v (.int i)) = (atI xs i).map .v := rfl
theorem gIx_ob {xs : List D} {i : Int} {h : Nat} (e : S[h]? = some (.lst xs)) : gIx S (.v (.ob h)) (.v (.int i)) = (atI xs i).map .v := by
  simp [gIx, R.dicR, R.seq, e]
@[simp] theorem gIx_0 {xs : List D} {i : Int} : gIx (.lst xs :: S) (.v (.ob 0)) (.v (.int i)) = (atI xs i).map .v := gIx_ob rfl
theorem ixN_nat {n m : Nat} : ixN n (m : Int) = if m < n then some m else none := by
  unfold ixN
  have h : (0 : Int) ≤ (m : Int) := Int.natCast_nonneg m
  rw [if_pos h]
  by_cases h2 : m < n
  · rw [if_pos (by omega), if_pos h2]; simp
  · rw [if_neg (by omega), if_neg h2]
theorem atI_nat {α : Type} {xs : List α} {m : Nat} : atI xs (m : Int) = xs[m]? := by
  unfold atI
  rw [ixN_nat]
  by_cases h : m < xs.length
  · rw [if_pos h]; rfl
  · rw [if_neg h]; simp at h; simp [h]
@[simp] theorem atI_0 {α : Type} {xs : List α} : atI xs 0 = xs[0]? := atI_nat (m := 0)
@[simp] theorem atI_1 {α : Type} {xs : List α} : atI xs 1 = xs[1]? := atI_nat (m := 1)
@[simp] theorem atI_2 {α : Type} {xs : List α} : atI xs 2 = xs[2]? := atI_nat (m := 2)
@[simp] theorem atI_3 {α : Type} {xs : List α} : atI xs 3 = xs[3]? := atI_nat (m := 3)
@[simp] theorem atI_4 {α : Type} {xs : List α} : atI xs 4 = xs[4]? := atI_nat (m := 4)
@[simp] theorem ixN_0 {n : Nat} : ixN n 0 = if 0 < n then some 0 else none := ixN_nat (m := 0)
@[simp] theorem ixN_1 {n : Nat} : ixN n 1 = if 1 < n then some 1 else none := ixN_nat (m := 1)
@[simp] theorem ixN_2 {n : Nat} : ixN n 2 = if 2 < n then some 2 else none := ixN_nat (m := 2)
@[simp] theorem eArgs_n : eArgs [] ρ S = some ([], S) := rfl
@[simp] theorem eArgs_c {f : E} {fs : List E} : eArgs (f :: fs) ρ S = bnd (f ρ S) fun x S1 => bnd (eArgs fs ρ S1) fun xs S2 => some (x :: xs, S2) := rfl
@[simp] theorem eBlt_ {g : Store → List R → Option R} {fs : List E} : eBlt g fs ρ S = bnd (eArgs fs ρ S) fun xs S1 => (g S1 xs).map fun z => (z, S1) := rfl
@[simp] theorem eCall_ {run : Ru} {fs : List E} : eCall run [] fs ρ S = bnd (eArgs fs ρ S) fun rs S1 => run rs S1 := by
  unfold eCall; simp
@[simp] theorem eTup_ {fs : List E} : eTup fs ρ S = bnd (eArgs fs ρ S) fun rs S1 => (flats rs).bind fun ds => if ds.length ≤ cap then some (.v (.tup ds), S1) else none := rfl
@[simp] theorem eLst_ {fs : List E} : eLst fs ρ S = bnd (eArgs fs ρ S) fun rs S1 => (flats rs).bind fun ds => if ds.length ≤ cap then some (.l ds, S1) else none := rfl
@[simp] theorem flats_n : flats [] = some [] := rfl
@[simp] theorem flats_v {d : D} {rs : List R} : flats (.v d :: rs) = (flats rs).map fun ds => d :: ds := rfl
@[simp] theorem gLen_0 {xs : List D} : gLen (.lst xs :: S) [.v (.ob 0)] = some (.v (.int xs.length)) := rfl
@[simp] theorem gLen_b {xs : List D} : gLen S [.b xs] = some (.v (.int xs.length)) := rfl
@[simp] theorem gLen_l {xs : List D} : gLen S [.l xs] = some (.v (.int xs.length)) := rfl
@[simp] theorem gLen_t {xs : List D} : gLen S [.v (.tup xs)] = some (.v (.int xs.length)) := rfl
@[simp] theorem ePick_ {fs : List E} {fb : E} : ePick fs fb ρ S = bnd (eArgs fs ρ S) fun rs S1 => bnd (fb ρ S1) fun y S2 => y.int.bind fun i => if rs.length ≤ cap then (atI rs i).map fun r => (r, S2) else none := rfl
def thenS (o : Option Out) (g : Sx) : Option Out := match o with
  | some (.next ρ1 S1) => g ρ1 S1
  | o => o
@[simp] theorem zbi {g : Sx} : thenS (some (.next ρ S)) g = g ρ S := rfl
@[simp] theorem thenS_r {g : Sx} {r : R} : thenS (some (.ret r S)) g = some (.ret r S) := rfl
@[simp] theorem thenS_b {g : Sx} : thenS (some (.brk ρ S)) g = some (.brk ρ S) := rfl
@[simp] theorem thenS_c {g : Sx} : thenS (some (.cont ρ S)) g = some (.cont ρ S) := rfl
@[simp] theorem thenS_n {g : Sx} : thenS none g = none := rfl
@[simp] theorem thenS_ite {c : Prop} [Decidable c] {a b : Option Out} {g : Sx} : thenS (if c then a else b) g = if c then thenS a g else thenS b g := by split <;> rfl
@[simp] theorem sSeq_ {f g : Sx} : sSeq f g ρ S = thenS (f ρ S) g := by
  unfold sSeq thenS
  cases f ρ S with
  | none => rfl
  | some o => cases o <;> rfl
@[simp] theorem sNil_ : sNil ρ S = some (.next ρ S) := rfl
@[simp] theorem sFail_ : sFail ρ S = none := rfl
@[simp] theorem sIf_ {ft : E} {fa fb : Sx} : sIf ft fa fb ρ S = bnd (ft ρ S) fun x S1 => iteB x.bool (fa ρ S1) (fb ρ S1) := by
  unfold sIf iteB; rfl
@[simp] theorem sExpr_ {fe : E} : sExpr fe ρ S = bnd (fe ρ S) fun _ S1 => some (.next ρ S1) := rfl
@[simp] theorem sRet_ {fe : E} : sRet fe ρ S = bnd (fe ρ S) fun x S1 => if x.may then some (.ret x S1) else none := rfl
@[simp] theorem may_v {d : D} : (R.v d).may = true := rfl
@[simp] theorem may_l {d : List D} : (R.l d).may = true := rfl
@[simp] theorem sRetN_ : sRetN ρ S = some (.ret (.v .non) S) := rfl
@[simp] theorem sRetVar_ {i : Nat} : sRetVar i ρ S = (ρ[i]?.bind Sl.out).map fun r => .ret r S := rfl
@[simp] theorem slout_v {d : D} : Sl.out (.v d) = some (.v d) := rfl
@[simp] theorem slout_l {d : List D} : Sl.out (.l d) = some (.l d) := rfl
@[simp] theorem sAsg_ {i : Nat} {fe : E} : sAsg i fe ρ S = bnd (fe ρ S) fun x S1 => (slotOf x).map fun s => .next (ρ.set i s) S1 := rfl
@[simp] theorem slotOf_v {d : D} : slotOf (.v d) = some (.v d) := rfl
@[simp] theorem slotOf_l {d : List D} : slotOf (.l d) = some (.l d) := rfl
@[simp] theorem slotOf_d {k : DK} {d : List (D × D)} : slotOf (.d k d) = some (.d k d) := rfl
@[simp] theorem sSet_ {fo fi fv : E} : sSet fo fi fv ρ S = bnd (fv ρ S) fun z S1 => bnd (fo ρ S1) fun x S2 => bnd (fi ρ S2) fun y S3 => match x, y, z with
  | .v (.ob h), .v y, .v d => (match S3[h]? with
    | some o => (putOb o y d).map fun o' => .next ρ (S3.set h o')
    | none => none)
  | _, _, _ => none := rfl
@[simp] theorem putOb_l {xs : List D} {k : Int} {d : D} : putOb (.lst xs) (.int k) d = (ixN xs.length k).map fun j => .lst (xs.set j d) := rfl
@[simp] theorem slotsIn_n : slotsIn [] = some [] := rfl
@[simp] theorem slotsIn_c {r : R} {rs : List R} : slotsIn (r :: rs) = (slotIn r).bind fun s => (slotsIn rs).map fun ss => s :: ss := by
  rw [slotsIn]
  cases slotIn r <;> cases slotsIn rs <;> rfl
@[simp] theorem slotIn_v {d : D} : slotIn (.v d) = some (.v d) := rfl
@[simp] theorem slotIn_l {d : List D} : slotIn (.l d) = some (.b d) := rfl
@[simp] theorem slotIn_b {d : List D} : slotIn (.b d) = some (.b d) := rfl
@[simp] theorem slotIn_f {d : List D} : slotIn (.f d) = some (.f d) := rfl
@[simp] theorem endOf_r {r : R} : endOf (some (.ret r S)) = some (r, S) := rfl
@[simp] theorem endOf_x : endOf (some (.next ρ S)) = some (.v .non, S) := rfl
@[simp] theorem endOf_n : endOf none = none := rfl
@[simp] theorem endOf_ite {c : Prop} [Decidable c] {a b : Option Out} : endOf (if c then a else b) = if c then endOf a else endOf b := by split <;> rfl
theorem zay {n : Nat} {ev : Sx} {rs : List R} {ss : List Sl} (h : slotsIn rs = some ss) (hl : ss.length ≤ n) : runOf n ev rs S = endOf (ev (ss ++ List.replicate (n - ss.length) .no) S) := by
  unfold runOf
  rw [h]
  simp [hl]
@[simp] theorem eLPop_0 {fi : E} {fo : E} : eLPop fo fi ρ S = bnd (fo ρ S) fun x S1 => bnd (fi ρ S1) fun y S2 => match x, y with
  | .v (.ob h), .v (.int k) => (match S2[h]?, S1[h]? with
    | some (.lst xs), some (.lst _) => if -(9223372036854775808) ≤ k ∧ k < 9223372036854775808 then (ixN xs.length k).bind fun m => (xs[m]?).map fun d => (.v d, S2.set h (.lst (xs.eraseIdx m))) else none
    | _, _ => none)
  | _, _ => none := rfl
end
end Ev
namespace Ev
open PySem L2
section
variable {ρ : Env} {S : Store}
@[simp] theorem seq_t {xs : List D} : (R.v (.tup xs)).seq S = some xs := rfl
@[simp] theorem seq_l {xs : List D} : (R.l xs).seq S = some xs := rfl
@[simp] theorem seq_b {xs : List D} : (R.b xs).seq S = some xs := rfl
@[simp] theorem lseq_l {xs : List D} : (R.l xs).lseq S = some xs := rfl
@[simp] theorem lseq_b {xs : List D} : (R.b xs).lseq S = some xs := rfl
@[simp] theorem gList_ {x : R} : gList S [x] = (x.seq S).map fun ys => .l ys := rfl
@[simp] theorem gTuple_ {x : R} : gTuple S [x] = (x.seq S).map fun ys => .v (.tup ys) := rfl
@[simp] theorem gMax2_ {i j : Int} : gMax2 S [.v (.int i), .v (.int j)] = some (.v (.int (max i j))) := by
  show some (R.v (.int (if j > i then j else i))) = _
  congr 3
  split <;> omega
@[simp] theorem gMin2_ {i j : Int} : gMin S [.v (.int i), .v (.int j)] = some (.v (.int (min i j))) := by
  show some (R.v (.int (if j < i then j else i))) = _
  congr 3
  split <;> omega
@[simp] theorem gInt_i {i : Int} : gInt S [.v (.int i)] = some (.v (.int i)) := rfl
@[simp] theorem gInt_b {b : Bool} : gInt S [.v (.bl b)] = some (.v (.int (if b then 1 else 0))) := rfl
@[simp] theorem gAbs_i {i : Int} : gAbs S [.v (.int i)] = some (.v (.int (if i < 0 then -i else i))) := rfl
@[simp] theorem gSorted_l {ns : List Int} : gSorted S [.l (ns.map D.int)] = some (.l ((sortI ns).map D.int)) := by simp [gSorted, R.nums, ints1_map]
@[simp] theorem gSorted_b {ns : List Int} : gSorted S [.b (ns.map D.int)] = some (.l ((sortI ns).map D.int)) := by simp [gSorted, R.nums, ints1_map]
@[simp] theorem gMin_b {ns : List Int} : gMin S [.b (ns.map D.int)] = if 0 < ns.length then some (.v (.int (minL ns))) else none := by simp [gMin, R.nums, ints1_map]
@[simp] theorem eSlice_ {fa : E} {lo hi : Option E} : eSlice fa lo hi ρ S = bnd (fa ρ S) fun x S1 => bnd (ePart lo ρ S1) fun l S2 => bnd (ePart hi ρ S2) fun u S3 => (gSl S3 x l u).map fun z => (z, S3) := rfl
@[simp] theorem ePart_n : ePart none ρ S = some (none, S) := rfl
@[simp] theorem ePart_s {f : E} : ePart (some f) ρ S = bnd (f ρ S) fun x S1 => x.int.map fun i => (some i, S1) := rfl
@[simp] theorem gSl_t {xs : List D} {lo hi : Option Int} : gSl S (.v (.tup xs)) lo hi = some (.v (.tup (cutD xs lo hi))) := rfl
@[simp] theorem gSl_l {xs : List D} {lo hi : Option Int} : gSl S (.l xs) lo hi = some (.l (cutD xs lo hi)) := rfl
@[simp] theorem gSl_b {xs : List D} {lo hi : Option Int} : gSl S (.b xs) lo hi = some (.l (cutD xs lo hi)) := rfl
theorem cut_take {xs : List D} {m : Nat} : cutD xs none (some (m : Int)) = xs.take m := by
  unfold cutD
  rw [HT.sIx_none, HT.sIx_nat, List.drop_zero, Nat.sub_zero]
  by_cases h : m ≤ xs.length
  · rw [Nat.min_eq_left h]
  · rw [Nat.min_eq_right (by omega), List.take_of_length_le (by omega), List.take_of_length_le (by omega)]
theorem cut_takeI {xs : List D} {k : Int} (h : 0 ≤ k) : cutD xs none (some k) = xs.take k.toNat := by
  have e : k = ((k.toNat : Nat) : Int) := by omega
  exact (congrArg (fun z => cutD xs none (some z)) e).trans cut_take
@[simp] theorem cut_1 {xs : List D} : cutD xs none (some 1) = xs.take 1 := cut_take (m := 1)
@[simp] theorem cut_2 {xs : List D} : cutD xs none (some 2) = xs.take 2 := cut_take (m := 2)
@[simp] theorem cut_3 {xs : List D} : cutD xs none (some 3) = xs.take 3 := cut_take (m := 3)
@[simp] theorem sUnp_ {is : List Nat} {fe : E} : sUnp is fe ρ S = bnd (fe ρ S) fun x S1 => (unpack is x S1 ρ).map fun ρ1 => .next ρ1 S1 := rfl
@[simp] theorem unpack_t {is : List Nat} {ds : List D} : unpack is (.v (.tup ds)) S ρ = setAll is ds ρ := rfl
@[simp] theorem unpack_l {is : List Nat} {ds : List D} : unpack is (.l ds) S ρ = setAll is ds ρ := rfl
@[simp] theorem setAll_n : setAll [] [] ρ = some ρ := rfl
@[simp] theorem setAll_c {i : Nat} {is : List Nat} {d : D} {ds : List D} : setAll (i :: is) (d :: ds) ρ = setAll is ds (ρ.set i (.v d)) := rfl
def setV (o : Option Sl) (y d : R) : Option Sl := match o, y, d with
  | some s, .v y, .v d => putSl s y d
  | _, _, _ => none
@[simp] theorem setV_ {s : Sl} {y d : D} : setV (some s) (.v y) (.v d) = putSl s y d := rfl
@[simp] theorem sSetV_ {i : Nat} {fi fv : E} : sSetV i fi fv ρ S = bnd (fv ρ S) fun z S1 => bnd (fi ρ S1) fun y S2 => (setV ρ[i]? y z).map fun s' => .next (ρ.set i s') S2 := by
  unfold sSetV
  cases fv ρ S with
  | none => rfl
  | some p =>
    simp only [bnd]
    cases fi ρ p.2 with
    | none => rfl
    | some q =>
      simp only
      cases ρ[i]? with
      | none => simp [setV]
      | some s => cases q.1 <;> cases p.1 <;> simp [setV]
@[simp] theorem putSl_l {xs : List D} {k : Int} {d : D} : putSl (.l xs) (.int k) d = (ixN xs.length k).map fun j => .l (xs.set j d) := rfl
def appV (o : Option Sl) (d : R) : Option Sl := match o, d with
  | some (.l xs), .v d => if xs.length < cap then some (.l (xs ++ [d])) else none
  | _, _ => none
@[simp] theorem appV_ {xs : List D} {d : D} : appV (some (.l xs)) (.v d) = if xs.length < cap then some (.l (xs ++ [d])) else none := rfl
@[simp] theorem sAppV_ {i : Nat} {fe : E} : sAppV i fe ρ S = bnd (fe ρ S) fun y S1 => (appV ρ[i]? y).map fun s => .next (ρ.set i s) S1 := by
  unfold sAppV
  cases fe ρ S with
  | none => rfl
  | some p =>
    simp only [bnd]
    cases ρ[i]? with
    | none => simp [appV]
    | some s => cases s <;> cases p.1 <;> simp [appV] <;> split <;> rfl
@[simp] theorem sPar_ {i j : Nat} {fa fb : E} : sPar i j fa fb ρ S = bnd (fa ρ S) fun x S1 => bnd (fb ρ S1) fun y S2 => x.flat.bind fun a => y.flat.map fun b => .next ((ρ.set i (.v a)).set j (.v b)) S2 := by
  unfold sPar
  cases fa ρ S with
  | none => rfl
  | some p =>
    simp only [bnd]
    cases fb ρ p.2 with
    | none => rfl
    | some q => simp only; cases p.1 <;> cases q.1 <;> rfl
@[simp] theorem fSeq_ {fa : E} : fSeq fa ρ S = bnd (fa ρ S) fun x S1 => (x.seq S1).map fun xs => ((xs, x.src xs), S1) := rfl
@[simp] theorem src_t {xs ys : List D} : R.src xs (.v (.tup ys)) = (.no, true) := rfl
@[simp] theorem src_l {xs ys : List D} : R.src xs (.l ys) = (.no, true) := rfl
@[simp] theorem fRange_ {fa : E} : fRange fa ρ S = bnd (fa ρ S) fun x S1 => x.int.bind fun n => if smallN n then some ((rangeD n, .no, true), S1) else none := rfl
@[simp] theorem alive_no : Src.alive S .no = true := rfl
@[simp] theorem sFor_ {fi : Fi} {tg : Tg} {body : Sx} : sFor fi tg body ρ S = bnd (fi ρ S) fun p S1 => if p.2.2 then loopF tg body p.2.1 p.1 ρ S1 else none := rfl
@[simp] theorem sForV_ {i : Nat} {fi : Fi} {tg : Tg} {body : Sx} : sForV i fi tg body ρ S = sFor fi tg body (lend i ρ) S := rfl
@[simp] theorem eComp_ {fi : Fi} {tg : Tg} {vs : List Nat} {ft fe : E} : eComp fi tg vs ft fe ρ S = bnd (fi ρ S) fun p S1 => if p.1.length ≤ cap then bnd (compF tg ft fe p.2.1 (wipeE ρ vs) p.1 S1) fun ys S2 => some (.l ys, S2) else none := rfl
@[simp] theorem tgName_ {i : Nat} {d : D} : tgName i d ρ = some (ρ.set i (.v d)) := rfl
@[simp] theorem tgTup_ {is : List Nat} {ds : List D} : tgTup is (.tup ds) ρ = setAll is ds ρ := rfl
theorem fVar_b {i : Nat} {xs : List D} (h : ρ[i]? = some (.b xs)) : fVar i ρ S = some ((xs, .no, true), S) := by unfold fVar; rw [h]
theorem fVar_f {i : Nat} {xs : List D} (h : ρ[i]? = some (.f xs)) : fVar i ρ S = some ((xs, .no, true), S) := by unfold fVar; rw [h]
theorem fVar_l {i : Nat} {xs : List D} (h : ρ[i]? = some (.l xs)) : fVar i ρ S = some ((xs, .no, false), S) := by unfold fVar; rw [h]; simp [h, R.src]
theorem fVar_t {i : Nat} {xs : List D} (h : ρ[i]? = some (.v (.tup xs))) : fVar i ρ S = some ((xs, .no, true), S) := by unfold fVar; rw [h]; simp [h, R.src]
@[simp] theorem compF_n {tg : Tg} {ft fe : E} : compF tg ft fe .no ρ [] S = some ([], S) := rfl
theorem compF_c {tg : Tg} {ft fe : E} {d : D} {r : List D} : compF tg ft fe .no ρ (d :: r) S = (tg d ρ).bind fun ρ1 => bnd (ft ρ1 S) fun b S1 => iteB b.bool (bnd (fe ρ1 S1) fun x S2 => x.flat.bind fun y => bnd (compF tg ft fe .no ρ r S2) fun ys S3 => some (y :: ys, S3)) (compF tg ft fe .no ρ r S1) := by
  rw [compF]
  rw [if_pos alive_no]
  cases tg d ρ with
  | none => rfl
  | some ρ1 =>
    simp only [Option.bind_some]
    cases ft ρ1 S with
    | none => rfl
    | some p =>
      simp only [bnd]
      cases p.1.bool with
      | none => rfl
      | some b =>
        cases b with
        | false => rfl
        | true =>
          simp only [iteB]
          cases fe ρ1 p.2 with
          | none => rfl
          | some q => simp only; cases q.1.flat <;> rfl
theorem zbd {α : Type} {tg : Tg} {ft fe : E} (c : α → D) (p : α → Bool) (g : α → D) : ∀ {xs : List α}, (∀ x ∈ xs, ∃ ρ1, tg (c x) ρ = some ρ1 ∧ ft ρ1 S = some (.v (.bl (p x)), S) ∧ (p x = true → fe ρ1 S = some (.v (g x), S))) →
    compF tg ft fe .no ρ (xs.map c) S = some ((xs.filter p).map g, S)
  | [], _ => rfl
  | x :: xs, h => by
    obtain ⟨ρ1, h1, h2, h3⟩ := h x (by simp)
    have ih := zbd c p g (xs := xs) fun y hy => h y (by simp [hy])
    rw [List.map_cons, compF_c, h1]
    simp only [Option.bind_some, h2, zaG, R.bool_bl, iteB_s]
    cases q : p x with
    | false => simp [q, ih]
    | true => simp [q, ih, h3 q]
theorem comp_map {α : Type} {tg : Tg} {fe : E} (c : α → D) (g : α → D) {xs : List α} (h : ∀ x ∈ xs, ∃ ρ1, tg (c x) ρ = some ρ1 ∧ fe ρ1 S = some (.v (g x), S)) :
    compF tg eTrue fe .no ρ (xs.map c) S = some (xs.map g, S) := by
  rw [zbd c (fun _ => true) g fun x hx => by
    obtain ⟨ρ1, h1, h2⟩ := h x hx
    exact ⟨ρ1, h1, rfl, fun _ => h2⟩]
  rw [List.filter_eq_self.mpr (fun _ _ => rfl)]
def stepL (tg : Tg) (body : Sx) (r : List D) (o : Option Out) : Option Out := match o with
  | some (.next ρ2 S2) => loopF tg body .no r ρ2 S2
  | some (.cont ρ2 S2) => loopF tg body .no r ρ2 S2
  | some (.brk ρ2 S2) => some (.next ρ2 S2)
  | some (.ret x S2) => some (.ret x S2)
  | none => none
@[simp] theorem stepL_x {tg : Tg} {body : Sx} {r : List D} : stepL tg body r (some (.next ρ S)) = loopF tg body .no r ρ S := rfl
@[simp] theorem stepL_r {tg : Tg} {body : Sx} {r : List D} {x : R} : stepL tg body r (some (.ret x S)) = some (.ret x S) := rfl
@[simp] theorem loopF_n {tg : Tg} {body : Sx} : loopF tg body .no [] ρ S = some (.next ρ S) := rfl
theorem loopF_c {tg : Tg} {body : Sx} {d : D} {r : List D} : loopF tg body .no (d :: r) ρ S = (tg d ρ).bind fun ρ1 => stepL tg body r (body ρ1 S) := by
  rw [loopF, if_pos alive_no]
  cases tg d ρ with
  | none => rfl
  | some ρ1 =>
    simp only [Option.bind_some]
    cases body ρ1 S with
    | none => rfl
    | some o => cases o <;> rfl
def stepW (ft : E) (body : Sx) (m : Nat) (o : Option Out) : Option Out := match o with
  | some (.next ρ2 S2) => whileF ft body m ρ2 S2
  | some (.cont ρ2 S2) => whileF ft body m ρ2 S2
  | some (.brk ρ2 S2) => some (.next ρ2 S2)
  | some (.ret x S2) => some (.ret x S2)
  | none => none
@[simp] theorem stepW_x {ft : E} {body : Sx} {m : Nat} : stepW ft body m (some (.next ρ S)) = whileF ft body m ρ S := rfl
theorem whileF_s {ft : E} {body : Sx} {m : Nat} : whileF ft body (m + 1) ρ S = bnd (ft ρ S) fun x S1 => iteB x.bool (stepW ft body m (body ρ S1)) (some (.next ρ S1)) := by
  rw [whileF]
  cases ft ρ S with
  | none => rfl
  | some p =>
    simp only [bnd]
    cases p.1.bool with
    | none => rfl
    | some b =>
      cases b with
      | false => rfl
      | true =>
        simp only [iteB]
        cases body ρ p.2 with
        | none => rfl
        | some o => cases o <;> rfl
theorem pd_b {xs : List D} (h : okNs 60 xs = true) : (R.b xs).pd S = some (.list (toPDs xs)) := by
  show (if okNs 60 xs = true then _ else _) = _
  rw [if_pos h]
theorem pd_l {xs : List D} (h : okNs 60 xs = true) : (R.l xs).pd S = some (.list (toPDs xs)) := by
  show (if okNs 60 xs = true then _ else _) = _
  rw [if_pos h]
theorem gNe_bl {xs ys : List D} (h : okNs 60 xs = true) (h' : okNs 60 ys = true) : gNe S (.b xs) (.l ys) = some (.v (.bl (!eqDs xs ys))) := by
  unfold gNe
  rw [pd_b h, pd_l h']
  simp [PyData.eqv, eqDs]
theorem gNe_ll {xs ys : List D} (h : okNs 60 xs = true) (h' : okNs 60 ys = true) : gNe S (.l xs) (.l ys) = some (.v (.bl (!eqDs xs ys))) := by
  unfold gNe
  rw [pd_l h, pd_l h']
  simp [PyData.eqv, eqDs]
theorem gEq_ll {xs ys : List D} (h : okNs 60 xs = true) (h' : okNs 60 ys = true) : gEq S (.l xs) (.l ys) = some (.v (.bl (eqDs xs ys))) := by
  unfold gEq
  rw [pd_l h, pd_l h']
  simp [PyData.eqv, eqDs]
theorem zbN {n : Nat} : ∀ ns : List Int, okNs n (ns.map D.int) = true
  | [] => by simp [okNs]
  | i :: ns => by simp [okNs, okN, zbN ns]
theorem eqDs_nil_r {xs : List D} : eqDs xs [] = xs.isEmpty := by cases xs <;> simp
theorem eqDs_ints : ∀ {a b : List Int}, eqDs (a.map D.int) (b.map D.int) = decide (a = b)
  | [], [] => by simp
  | [], _ :: _ => by simp
  | _ :: _, [] => by simp
  | x :: a, y :: b => by
    simp only [List.map_cons, eqDs_cons, eqD_int, eqDs_ints (a := a) (b := b), List.cons.injEq]
    by_cases h : x = y <;> by_cases h2 : a = b <;> simp [h, h2]
@[simp] theorem eIsi_ {t : Ty} {fa : E} : eIsi t fa ρ S = bnd (fa ρ S) fun x S1 => (x.kd S1).map fun k => (.v (.bl (isTy k t)), S1) := rfl
@[simp] theorem kd_non : (R.v .non).kd S = some .non := rfl
@[simp] theorem kd_bl {b : Bool} : (R.v (.bl b)).kd S = some .bool := rfl
@[simp] theorem kd_int {i : Int} : (R.v (.int i)).kd S = some .int := rfl
@[simp] theorem kd_str {i : Str} : (R.v (.str i)).kd S = some .str := rfl
@[simp] theorem kd_tup {i : List D} : (R.v (.tup i)).kd S = some .tuple := rfl
@[simp] theorem kd_l {i : List D} : (R.l i).kd S = some .list := rfl
@[simp] theorem kd_b {i : List D} : (R.b i).kd S = some .list := rfl
@[simp] theorem eChain_ {g g' : Store → R → R → Option R} {fa fb fc : E} : eChain g g' fa fb fc ρ S = bnd (fa ρ S) fun x S1 => bnd (fb ρ S1) fun y S2 => (g S2 x y).bind fun z => iteB z.bool (bnd (fc ρ S2) fun w S3 => (g' S3 y w).map fun z => (z, S3)) (some (.v (.bl false), S2)) := by
  unfold eChain
  cases fa ρ S with
  | none => rfl
  | some p =>
    simp only [bnd]
    cases fb ρ p.2 with
    | none => rfl
    | some q =>
      simp only
      cases g q.2 p.1 q.1 with
      | none => rfl
      | some z =>
        simp only [Option.bind_some]
        cases z.bool with
        | none => rfl
        | some b => cases b <;> rfl
end
end Ev
namespace Ev
open PySem L2
@[simp] theorem so_look : PyData.strOk (Str.ofString "look") = true := by decide +kernel
@[simp] theorem so_put : PyData.strOk (Str.ofString "put") = true := by decide +kernel
@[simp] theorem so_add : PyData.strOk (Str.ofString "add") = true := by decide +kernel
@[simp] theorem so_move : PyData.strOk (Str.ofString "move") = true := by decide +kernel
@[simp] theorem so_draft : PyData.strOk (Str.ofString "draft") = true := by decide +kernel
@[simp] theorem so_wait : PyData.strOk (Str.ofString "wait") = true := by decide +kernel
@[simp] theorem so_save : PyData.strOk (Str.ofString "save") = true := by decide +kernel
@[simp] theorem so_house : PyData.strOk (Str.ofString "house") = true := by decide +kernel
@[simp] theorem so_user : PyData.strOk (Str.ofString "user") = true := by decide +kernel
@[simp] theorem so_seen : PyData.strOk (Str.ofString "seen") = true := by decide +kernel
@[simp] theorem so_done : PyData.strOk (Str.ofString "done") = true := by decide +kernel
@[simp] theorem so_back : PyData.strOk (Str.ofString "back") = true := by decide +kernel
@[simp] theorem so_given : PyData.strOk (Str.ofString "given") = true := by decide +kernel
@[simp] theorem so_writes : PyData.strOk (Str.ofString "writes") = true := by decide +kernel
@[simp] theorem so_users : PyData.strOk (Str.ofString "users") = true := by decide +kernel
@[simp] theorem so_down : PyData.strOk (Str.ofString "down") = true := by decide +kernel
@[simp] theorem so_away : PyData.strOk (Str.ofString "away") = true := by decide +kernel
@[simp] theorem so_post : PyData.strOk (Str.ofString "post") = true := by decide +kernel
@[simp] theorem so_first : PyData.strOk (Str.ofString "first") = true := by decide +kernel
@[simp] theorem so_rows : PyData.strOk (Str.ofString "rows") = true := by decide +kernel
@[simp] theorem so_open : PyData.strOk (Str.ofString "open") = true := by decide +kernel
@[simp] theorem so_time : PyData.strOk (Str.ofString "time") = true := by decide +kernel
@[simp] theorem so_turns : PyData.strOk (Str.ofString "turns") = true := by decide +kernel
@[simp] theorem so_notes : PyData.strOk (Str.ofString "notes") = true := by decide +kernel
@[simp] theorem so_lives : PyData.strOk (Str.ofString "lives") = true := by decide +kernel
@[simp] theorem so_all : PyData.strOk (Str.ofString "all") = true := by decide +kernel
@[simp] theorem so_note : PyData.strOk (Str.ofString "note") = true := by decide +kernel
@[simp] theorem sn_look : ("look":Str) ≠ "put" ∧ ("look":Str) ≠ "add" ∧ ("look":Str) ≠ "move" ∧ ("look":Str) ≠ "draft" ∧ ("look":Str) ≠ "wait" ∧ ("look":Str) ≠ "save" ∧ ("look":Str) ≠ "house" ∧ ("look":Str) ≠ "user" ∧ ("look":Str) ≠ "seen" ∧ ("look":Str) ≠ "done" ∧ ("look":Str) ≠ "back" ∧ ("look":Str) ≠ "given" ∧ ("look":Str) ≠ "writes" ∧ ("look":Str) ≠ "users" ∧ ("look":Str) ≠ "down" ∧ ("look":Str) ≠ "away" ∧ ("look":Str) ≠ "post" ∧ ("look":Str) ≠ "first" ∧ ("look":Str) ≠ "rows" ∧ ("look":Str) ≠ "open" ∧ ("look":Str) ≠ "time" ∧ ("look":Str) ≠ "turns" ∧ ("look":Str) ≠ "notes" ∧ ("look":Str) ≠ "lives" ∧ ("look":Str) ≠ "all" ∧ ("look":Str) ≠ "note" := by decide +kernel
@[simp] theorem sn_put : ("put":Str) ≠ "look" ∧ ("put":Str) ≠ "add" ∧ ("put":Str) ≠ "move" ∧ ("put":Str) ≠ "draft" ∧ ("put":Str) ≠ "wait" ∧ ("put":Str) ≠ "save" ∧ ("put":Str) ≠ "house" ∧ ("put":Str) ≠ "user" ∧ ("put":Str) ≠ "seen" ∧ ("put":Str) ≠ "done" ∧ ("put":Str) ≠ "back" ∧ ("put":Str) ≠ "given" ∧ ("put":Str) ≠ "writes" ∧ ("put":Str) ≠ "users" ∧ ("put":Str) ≠ "down" ∧ ("put":Str) ≠ "away" ∧ ("put":Str) ≠ "post" ∧ ("put":Str) ≠ "first" ∧ ("put":Str) ≠ "rows" ∧ ("put":Str) ≠ "open" ∧ ("put":Str) ≠ "time" ∧ ("put":Str) ≠ "turns" ∧ ("put":Str) ≠ "notes" ∧ ("put":Str) ≠ "lives" ∧ ("put":Str) ≠ "all" ∧ ("put":Str) ≠ "note" := by decide +kernel
@[simp] theorem sn_add : ("add":Str) ≠ "look" ∧ ("add":Str) ≠ "put" ∧ ("add":Str) ≠ "move" ∧ ("add":Str) ≠ "draft" ∧ ("add":Str) ≠ "wait" ∧ ("add":Str) ≠ "save" ∧ ("add":Str) ≠ "house" ∧ ("add":Str) ≠ "user" ∧ ("add":Str) ≠ "seen" ∧ ("add":Str) ≠ "done" ∧ ("add":Str) ≠ "back" ∧ ("add":Str) ≠ "given" ∧ ("add":Str) ≠ "writes" ∧ ("add":Str) ≠ "users" ∧ ("add":Str) ≠ "down" ∧ ("add":Str) ≠ "away" ∧ ("add":Str) ≠ "post" ∧ ("add":Str) ≠ "first" ∧ ("add":Str) ≠ "rows" ∧ ("add":Str) ≠ "open" ∧ ("add":Str) ≠ "time" ∧ ("add":Str) ≠ "turns" ∧ ("add":Str) ≠ "notes" ∧ ("add":Str) ≠ "lives" ∧ ("add":Str) ≠ "all" ∧ ("add":Str) ≠ "note" := by decide +kernel
@[simp] theorem sn_move : ("move":Str) ≠ "look" ∧ ("move":Str) ≠ "put" ∧ ("move":Str) ≠ "add" ∧ ("move":Str) ≠ "draft" ∧ ("move":Str) ≠ "wait" ∧ ("move":Str) ≠ "save" ∧ ("move":Str) ≠ "house" ∧ ("move":Str) ≠ "user" ∧ ("move":Str) ≠ "seen" ∧ ("move":Str) ≠ "done" ∧ ("move":Str) ≠ "back" ∧ ("move":Str) ≠ "given" ∧ ("move":Str) ≠ "writes" ∧ ("move":Str) ≠ "users" ∧ ("move":Str) ≠ "down" ∧ ("move":Str) ≠ "away" ∧ ("move":Str) ≠ "post" ∧ ("move":Str) ≠ "first" ∧ ("move":Str) ≠ "rows" ∧ ("move":Str) ≠ "open" ∧ ("move":Str) ≠ "time" ∧ ("move":Str) ≠ "turns" ∧ ("move":Str) ≠ "notes" ∧ ("move":Str) ≠ "lives" ∧ ("move":Str) ≠ "all" ∧ ("move":Str) ≠ "note" := by decide +kernel
@[simp] theorem sn_draft : ("draft":Str) ≠ "look" ∧ ("draft":Str) ≠ "put" ∧ ("draft":Str) ≠ "add" ∧ ("draft":Str) ≠ "move" ∧ ("draft":Str) ≠ "wait" ∧ ("draft":Str) ≠ "save" ∧ ("draft":Str) ≠ "house" ∧ ("draft":Str) ≠ "user" ∧ ("draft":Str) ≠ "seen" ∧ ("draft":Str) ≠ "done" ∧ ("draft":Str) ≠ "back" ∧ ("draft":Str) ≠ "given" ∧ ("draft":Str) ≠ "writes" ∧ ("draft":Str) ≠ "users" ∧ ("draft":Str) ≠ "down" ∧ ("draft":Str) ≠ "away" ∧ ("draft":Str) ≠ "post" ∧ ("draft":Str) ≠ "first" ∧ ("draft":Str) ≠ "rows" ∧ ("draft":Str) ≠ "open" ∧ ("draft":Str) ≠ "time" ∧ ("draft":Str) ≠ "turns" ∧ ("draft":Str) ≠ "notes" ∧ ("draft":Str) ≠ "lives" ∧ ("draft":Str) ≠ "all" ∧ ("draft":Str) ≠ "note" := by decide +kernel
@[simp] theorem sn_wait : ("wait":Str) ≠ "look" ∧ ("wait":Str) ≠ "put" ∧ ("wait":Str) ≠ "add" ∧ ("wait":Str) ≠ "move" ∧ ("wait":Str) ≠ "draft" ∧ ("wait":Str) ≠ "save" ∧ ("wait":Str) ≠ "house" ∧ ("wait":Str) ≠ "user" ∧ ("wait":Str) ≠ "seen" ∧ ("wait":Str) ≠ "done" ∧ ("wait":Str) ≠ "back" ∧ ("wait":Str) ≠ "given" ∧ ("wait":Str) ≠ "writes" ∧ ("wait":Str) ≠ "users" ∧ ("wait":Str) ≠ "down" ∧ ("wait":Str) ≠ "away" ∧ ("wait":Str) ≠ "post" ∧ ("wait":Str) ≠ "first" ∧ ("wait":Str) ≠ "rows" ∧ ("wait":Str) ≠ "open" ∧ ("wait":Str) ≠ "time" ∧ ("wait":Str) ≠ "turns" ∧ ("wait":Str) ≠ "notes" ∧ ("wait":Str) ≠ "lives" ∧ ("wait":Str) ≠ "all" ∧ ("wait":Str) ≠ "note" := by decide +kernel
@[simp] theorem sn_save : ("save":Str) ≠ "look" ∧ ("save":Str) ≠ "put" ∧ ("save":Str) ≠ "add" ∧ ("save":Str) ≠ "move" ∧ ("save":Str) ≠ "draft" ∧ ("save":Str) ≠ "wait" ∧ ("save":Str) ≠ "house" ∧ ("save":Str) ≠ "user" ∧ ("save":Str) ≠ "seen" ∧ ("save":Str) ≠ "done" ∧ ("save":Str) ≠ "back" ∧ ("save":Str) ≠ "given" ∧ ("save":Str) ≠ "writes" ∧ ("save":Str) ≠ "users" ∧ ("save":Str) ≠ "down" ∧ ("save":Str) ≠ "away" ∧ ("save":Str) ≠ "post" ∧ ("save":Str) ≠ "first" ∧ ("save":Str) ≠ "rows" ∧ ("save":Str) ≠ "open" ∧ ("save":Str) ≠ "time" ∧ ("save":Str) ≠ "turns" ∧ ("save":Str) ≠ "notes" ∧ ("save":Str) ≠ "lives" ∧ ("save":Str) ≠ "all" ∧ ("save":Str) ≠ "note" := by decide +kernel
@[simp] theorem sn_house : ("house":Str) ≠ "look" ∧ ("house":Str) ≠ "put" ∧ ("house":Str) ≠ "add" ∧ ("house":Str) ≠ "move" ∧ ("house":Str) ≠ "draft" ∧ ("house":Str) ≠ "wait" ∧ ("house":Str) ≠ "save" ∧ ("house":Str) ≠ "user" ∧ ("house":Str) ≠ "seen" ∧ ("house":Str) ≠ "done" ∧ ("house":Str) ≠ "back" ∧ ("house":Str) ≠ "given" ∧ ("house":Str) ≠ "writes" ∧ ("house":Str) ≠ "users" ∧ ("house":Str) ≠ "down" ∧ ("house":Str) ≠ "away" ∧ ("house":Str) ≠ "post" ∧ ("house":Str) ≠ "first" ∧ ("house":Str) ≠ "rows" ∧ ("house":Str) ≠ "open" ∧ ("house":Str) ≠ "time" ∧ ("house":Str) ≠ "turns" ∧ ("house":Str) ≠ "notes" ∧ ("house":Str) ≠ "lives" ∧ ("house":Str) ≠ "all" ∧ ("house":Str) ≠ "note" := by decide +kernel
@[simp] theorem sn_user : ("user":Str) ≠ "look" ∧ ("user":Str) ≠ "put" ∧ ("user":Str) ≠ "add" ∧ ("user":Str) ≠ "move" ∧ ("user":Str) ≠ "draft" ∧ ("user":Str) ≠ "wait" ∧ ("user":Str) ≠ "save" ∧ ("user":Str) ≠ "house" ∧ ("user":Str) ≠ "seen" ∧ ("user":Str) ≠ "done" ∧ ("user":Str) ≠ "back" ∧ ("user":Str) ≠ "given" ∧ ("user":Str) ≠ "writes" ∧ ("user":Str) ≠ "users" ∧ ("user":Str) ≠ "down" ∧ ("user":Str) ≠ "away" ∧ ("user":Str) ≠ "post" ∧ ("user":Str) ≠ "first" ∧ ("user":Str) ≠ "rows" ∧ ("user":Str) ≠ "open" ∧ ("user":Str) ≠ "time" ∧ ("user":Str) ≠ "turns" ∧ ("user":Str) ≠ "notes" ∧ ("user":Str) ≠ "lives" ∧ ("user":Str) ≠ "all" ∧ ("user":Str) ≠ "note" := by decide +kernel
@[simp] theorem sn_seen : ("seen":Str) ≠ "look" ∧ ("seen":Str) ≠ "put" ∧ ("seen":Str) ≠ "add" ∧ ("seen":Str) ≠ "move" ∧ ("seen":Str) ≠ "draft" ∧ ("seen":Str) ≠ "wait" ∧ ("seen":Str) ≠ "save" ∧ ("seen":Str) ≠ "house" ∧ ("seen":Str) ≠ "user" ∧ ("seen":Str) ≠ "done" ∧ ("seen":Str) ≠ "back" ∧ ("seen":Str) ≠ "given" ∧ ("seen":Str) ≠ "writes" ∧ ("seen":Str) ≠ "users" ∧ ("seen":Str) ≠ "down" ∧ ("seen":Str) ≠ "away" ∧ ("seen":Str) ≠ "post" ∧ ("seen":Str) ≠ "first" ∧ ("seen":Str) ≠ "rows" ∧ ("seen":Str) ≠ "open" ∧ ("seen":Str) ≠ "time" ∧ ("seen":Str) ≠ "turns" ∧ ("seen":Str) ≠ "notes" ∧ ("seen":Str) ≠ "lives" ∧ ("seen":Str) ≠ "all" ∧ ("seen":Str) ≠ "note" := by decide +kernel
@[simp] theorem sn_done : ("done":Str) ≠ "look" ∧ ("done":Str) ≠ "put" ∧ ("done":Str) ≠ "add" ∧ ("done":Str) ≠ "move" ∧ ("done":Str) ≠ "draft" ∧ ("done":Str) ≠ "wait" ∧ ("done":Str) ≠ "save" ∧ ("done":Str) ≠ "house" ∧ ("done":Str) ≠ "user" ∧ ("done":Str) ≠ "seen" ∧ ("done":Str) ≠ "back" ∧ ("done":Str) ≠ "given" ∧ ("done":Str) ≠ "writes" ∧ ("done":Str) ≠ "users" ∧ ("done":Str) ≠ "down" ∧ ("done":Str) ≠ "away" ∧ ("done":Str) ≠ "post" ∧ ("done":Str) ≠ "first" ∧ ("done":Str) ≠ "rows" ∧ ("done":Str) ≠ "open" ∧ ("done":Str) ≠ "time" ∧ ("done":Str) ≠ "turns" ∧ ("done":Str) ≠ "notes" ∧ ("done":Str) ≠ "lives" ∧ ("done":Str) ≠ "all" ∧ ("done":Str) ≠ "note" := by decide +kernel
@[simp] theorem sn_back : ("back":Str) ≠ "look" ∧ ("back":Str) ≠ "put" ∧ ("back":Str) ≠ "add" ∧ ("back":Str) ≠ "move" ∧ ("back":Str) ≠ "draft" ∧ ("back":Str) ≠ "wait" ∧ ("back":Str) ≠ "save" ∧ ("back":Str) ≠ "house" ∧ ("back":Str) ≠ "user" ∧ ("back":Str) ≠ "seen" ∧ ("back":Str) ≠ "done" ∧ ("back":Str) ≠ "given" ∧ ("back":Str) ≠ "writes" ∧ ("back":Str) ≠ "users" ∧ ("back":Str) ≠ "down" ∧ ("back":Str) ≠ "away" ∧ ("back":Str) ≠ "post" ∧ ("back":Str) ≠ "first" ∧ ("back":Str) ≠ "rows" ∧ ("back":Str) ≠ "open" ∧ ("back":Str) ≠ "time" ∧ ("back":Str) ≠ "turns" ∧ ("back":Str) ≠ "notes" ∧ ("back":Str) ≠ "lives" ∧ ("back":Str) ≠ "all" ∧ ("back":Str) ≠ "note" := by decide +kernel
@[simp] theorem sn_given : ("given":Str) ≠ "look" ∧ ("given":Str) ≠ "put" ∧ ("given":Str) ≠ "add" ∧ ("given":Str) ≠ "move" ∧ ("given":Str) ≠ "draft" ∧ ("given":Str) ≠ "wait" ∧ ("given":Str) ≠ "save" ∧ ("given":Str) ≠ "house" ∧ ("given":Str) ≠ "user" ∧ ("given":Str) ≠ "seen" ∧ ("given":Str) ≠ "done" ∧ ("given":Str) ≠ "back" ∧ ("given":Str) ≠ "writes" ∧ ("given":Str) ≠ "users" ∧ ("given":Str) ≠ "down" ∧ ("given":Str) ≠ "away" ∧ ("given":Str) ≠ "post" ∧ ("given":Str) ≠ "first" ∧ ("given":Str) ≠ "rows" ∧ ("given":Str) ≠ "open" ∧ ("given":Str) ≠ "time" ∧ ("given":Str) ≠ "turns" ∧ ("given":Str) ≠ "notes" ∧ ("given":Str) ≠ "lives" ∧ ("given":Str) ≠ "all" ∧ ("given":Str) ≠ "note" := by decide +kernel
@[simp] theorem sn_writes : ("writes":Str) ≠ "look" ∧ ("writes":Str) ≠ "put" ∧ ("writes":Str) ≠ "add" ∧ ("writes":Str) ≠ "move" ∧ ("writes":Str) ≠ "draft" ∧ ("writes":Str) ≠ "wait" ∧ ("writes":Str) ≠ "save" ∧ ("writes":Str) ≠ "house" ∧ ("writes":Str) ≠ "user" ∧ ("writes":Str) ≠ "seen" ∧ ("writes":Str) ≠ "done" ∧ ("writes":Str) ≠ "back" ∧ ("writes":Str) ≠ "given" ∧ ("writes":Str) ≠ "users" ∧ ("writes":Str) ≠ "down" ∧ ("writes":Str) ≠ "away" ∧ ("writes":Str) ≠ "post" ∧ ("writes":Str) ≠ "first" ∧ ("writes":Str) ≠ "rows" ∧ ("writes":Str) ≠ "open" ∧ ("writes":Str) ≠ "time" ∧ ("writes":Str) ≠ "turns" ∧ ("writes":Str) ≠ "notes" ∧ ("writes":Str) ≠ "lives" ∧ ("writes":Str) ≠ "all" ∧ ("writes":Str) ≠ "note" := by decide +kernel
@[simp] theorem sn_users : ("users":Str) ≠ "look" ∧ ("users":Str) ≠ "put" ∧ ("users":Str) ≠ "add" ∧ ("users":Str) ≠ "move" ∧ ("users":Str) ≠ "draft" ∧ ("users":Str) ≠ "wait" ∧ ("users":Str) ≠ "save" ∧ ("users":Str) ≠ "house" ∧ ("users":Str) ≠ "user" ∧ ("users":Str) ≠ "seen" ∧ ("users":Str) ≠ "done" ∧ ("users":Str) ≠ "back" ∧ ("users":Str) ≠ "given" ∧ ("users":Str) ≠ "writes" ∧ ("users":Str) ≠ "down" ∧ ("users":Str) ≠ "away" ∧ ("users":Str) ≠ "post" ∧ ("users":Str) ≠ "first" ∧ ("users":Str) ≠ "rows" ∧ ("users":Str) ≠ "open" ∧ ("users":Str) ≠ "time" ∧ ("users":Str) ≠ "turns" ∧ ("users":Str) ≠ "notes" ∧ ("users":Str) ≠ "lives" ∧ ("users":Str) ≠ "all" ∧ ("users":Str) ≠ "note" := by decide +kernel
@[simp] theorem sn_down : ("down":Str) ≠ "look" ∧ ("down":Str) ≠ "put" ∧ ("down":Str) ≠ "add" ∧ ("down":Str) ≠ "move" ∧ ("down":Str) ≠ "draft" ∧ ("down":Str) ≠ "wait" ∧ ("down":Str) ≠ "save" ∧ ("down":Str) ≠ "house" ∧ ("down":Str) ≠ "user" ∧ ("down":Str) ≠ "seen" ∧ ("down":Str) ≠ "done" ∧ ("down":Str) ≠ "back" ∧ ("down":Str) ≠ "given" ∧ ("down":Str) ≠ "writes" ∧ ("down":Str) ≠ "users" ∧ ("down":Str) ≠ "away" ∧ ("down":Str) ≠ "post" ∧ ("down":Str) ≠ "first" ∧ ("down":Str) ≠ "rows" ∧ ("down":Str) ≠ "open" ∧ ("down":Str) ≠ "time" ∧ ("down":Str) ≠ "turns" ∧ ("down":Str) ≠ "notes" ∧ ("down":Str) ≠ "lives" ∧ ("down":Str) ≠ "all" ∧ ("down":Str) ≠ "note" := by decide +kernel
@[simp] theorem sn_away : ("away":Str) ≠ "look" ∧ ("away":Str) ≠ "put" ∧ ("away":Str) ≠ "add" ∧ ("away":Str) ≠ "move" ∧ ("away":Str) ≠ "draft" ∧ ("away":Str) ≠ "wait" ∧ ("away":Str) ≠ "save" ∧ ("away":Str) ≠ "house" ∧ ("away":Str) ≠ "user" ∧ ("away":Str) ≠ "seen" ∧ ("away":Str) ≠ "done" ∧ ("away":Str) ≠ "back" ∧ ("away":Str) ≠ "given" ∧ ("away":Str) ≠ "writes" ∧ ("away":Str) ≠ "users" ∧ ("away":Str) ≠ "down" ∧ ("away":Str) ≠ "post" ∧ ("away":Str) ≠ "first" ∧ ("away":Str) ≠ "rows" ∧ ("away":Str) ≠ "open" ∧ ("away":Str) ≠ "time" ∧ ("away":Str) ≠ "turns" ∧ ("away":Str) ≠ "notes" ∧ ("away":Str) ≠ "lives" ∧ ("away":Str) ≠ "all" ∧ ("away":Str) ≠ "note" := by decide +kernel
@[simp] theorem sn_post : ("post":Str) ≠ "look" ∧ ("post":Str) ≠ "put" ∧ ("post":Str) ≠ "add" ∧ ("post":Str) ≠ "move" ∧ ("post":Str) ≠ "draft" ∧ ("post":Str) ≠ "wait" ∧ ("post":Str) ≠ "save" ∧ ("post":Str) ≠ "house" ∧ ("post":Str) ≠ "user" ∧ ("post":Str) ≠ "seen" ∧ ("post":Str) ≠ "done" ∧ ("post":Str) ≠ "back" ∧ ("post":Str) ≠ "given" ∧ ("post":Str) ≠ "writes" ∧ ("post":Str) ≠ "users" ∧ ("post":Str) ≠ "down" ∧ ("post":Str) ≠ "away" ∧ ("post":Str) ≠ "first" ∧ ("post":Str) ≠ "rows" ∧ ("post":Str) ≠ "open" ∧ ("post":Str) ≠ "time" ∧ ("post":Str) ≠ "turns" ∧ ("post":Str) ≠ "notes" ∧ ("post":Str) ≠ "lives" ∧ ("post":Str) ≠ "all" ∧ ("post":Str) ≠ "note" := by decide +kernel
@[simp] theorem sn_first : ("first":Str) ≠ "look" ∧ ("first":Str) ≠ "put" ∧ ("first":Str) ≠ "add" ∧ ("first":Str) ≠ "move" ∧ ("first":Str) ≠ "draft" ∧ ("first":Str) ≠ "wait" ∧ ("first":Str) ≠ "save" ∧ ("first":Str) ≠ "house" ∧ ("first":Str) ≠ "user" ∧ ("first":Str) ≠ "seen" ∧ ("first":Str) ≠ "done" ∧ ("first":Str) ≠ "back" ∧ ("first":Str) ≠ "given" ∧ ("first":Str) ≠ "writes" ∧ ("first":Str) ≠ "users" ∧ ("first":Str) ≠ "down" ∧ ("first":Str) ≠ "away" ∧ ("first":Str) ≠ "post" ∧ ("first":Str) ≠ "rows" ∧ ("first":Str) ≠ "open" ∧ ("first":Str) ≠ "time" ∧ ("first":Str) ≠ "turns" ∧ ("first":Str) ≠ "notes" ∧ ("first":Str) ≠ "lives" ∧ ("first":Str) ≠ "all" ∧ ("first":Str) ≠ "note" := by decide +kernel
@[simp] theorem sn_rows : ("rows":Str) ≠ "look" ∧ ("rows":Str) ≠ "put" ∧ ("rows":Str) ≠ "add" ∧ ("rows":Str) ≠ "move" ∧ ("rows":Str) ≠ "draft" ∧ ("rows":Str) ≠ "wait" ∧ ("rows":Str) ≠ "save" ∧ ("rows":Str) ≠ "house" ∧ ("rows":Str) ≠ "user" ∧ ("rows":Str) ≠ "seen" ∧ ("rows":Str) ≠ "done" ∧ ("rows":Str) ≠ "back" ∧ ("rows":Str) ≠ "given" ∧ ("rows":Str) ≠ "writes" ∧ ("rows":Str) ≠ "users" ∧ ("rows":Str) ≠ "down" ∧ ("rows":Str) ≠ "away" ∧ ("rows":Str) ≠ "post" ∧ ("rows":Str) ≠ "first" ∧ ("rows":Str) ≠ "open" ∧ ("rows":Str) ≠ "time" ∧ ("rows":Str) ≠ "turns" ∧ ("rows":Str) ≠ "notes" ∧ ("rows":Str) ≠ "lives" ∧ ("rows":Str) ≠ "all" ∧ ("rows":Str) ≠ "note" := by decide +kernel
@[simp] theorem sn_open : ("open":Str) ≠ "look" ∧ ("open":Str) ≠ "put" ∧ ("open":Str) ≠ "add" ∧ ("open":Str) ≠ "move" ∧ ("open":Str) ≠ "draft" ∧ ("open":Str) ≠ "wait" ∧ ("open":Str) ≠ "save" ∧ ("open":Str) ≠ "house" ∧ ("open":Str) ≠ "user" ∧ ("open":Str) ≠ "seen" ∧ ("open":Str) ≠ "done" ∧ ("open":Str) ≠ "back" ∧ ("open":Str) ≠ "given" ∧ ("open":Str) ≠ "writes" ∧ ("open":Str) ≠ "users" ∧ ("open":Str) ≠ "down" ∧ ("open":Str) ≠ "away" ∧ ("open":Str) ≠ "post" ∧ ("open":Str) ≠ "first" ∧ ("open":Str) ≠ "rows" ∧ ("open":Str) ≠ "time" ∧ ("open":Str) ≠ "turns" ∧ ("open":Str) ≠ "notes" ∧ ("open":Str) ≠ "lives" ∧ ("open":Str) ≠ "all" ∧ ("open":Str) ≠ "note" := by decide +kernel
@[simp] theorem sn_time : ("time":Str) ≠ "look" ∧ ("time":Str) ≠ "put" ∧ ("time":Str) ≠ "add" ∧ ("time":Str) ≠ "move" ∧ ("time":Str) ≠ "draft" ∧ ("time":Str) ≠ "wait" ∧ ("time":Str) ≠ "save" ∧ ("time":Str) ≠ "house" ∧ ("time":Str) ≠ "user" ∧ ("time":Str) ≠ "seen" ∧ ("time":Str) ≠ "done" ∧ ("time":Str) ≠ "back" ∧ ("time":Str) ≠ "given" ∧ ("time":Str) ≠ "writes" ∧ ("time":Str) ≠ "users" ∧ ("time":Str) ≠ "down" ∧ ("time":Str) ≠ "away" ∧ ("time":Str) ≠ "post" ∧ ("time":Str) ≠ "first" ∧ ("time":Str) ≠ "rows" ∧ ("time":Str) ≠ "open" ∧ ("time":Str) ≠ "turns" ∧ ("time":Str) ≠ "notes" ∧ ("time":Str) ≠ "lives" ∧ ("time":Str) ≠ "all" ∧ ("time":Str) ≠ "note" := by decide +kernel
@[simp] theorem sn_turns : ("turns":Str) ≠ "look" ∧ ("turns":Str) ≠ "put" ∧ ("turns":Str) ≠ "add" ∧ ("turns":Str) ≠ "move" ∧ ("turns":Str) ≠ "draft" ∧ ("turns":Str) ≠ "wait" ∧ ("turns":Str) ≠ "save" ∧ ("turns":Str) ≠ "house" ∧ ("turns":Str) ≠ "user" ∧ ("turns":Str) ≠ "seen" ∧ ("turns":Str) ≠ "done" ∧ ("turns":Str) ≠ "back" ∧ ("turns":Str) ≠ "given" ∧ ("turns":Str) ≠ "writes" ∧ ("turns":Str) ≠ "users" ∧ ("turns":Str) ≠ "down" ∧ ("turns":Str) ≠ "away" ∧ ("turns":Str) ≠ "post" ∧ ("turns":Str) ≠ "first" ∧ ("turns":Str) ≠ "rows" ∧ ("turns":Str) ≠ "open" ∧ ("turns":Str) ≠ "time" ∧ ("turns":Str) ≠ "notes" ∧ ("turns":Str) ≠ "lives" ∧ ("turns":Str) ≠ "all" ∧ ("turns":Str) ≠ "note" := by decide +kernel
@[simp] theorem sn_notes : ("notes":Str) ≠ "look" ∧ ("notes":Str) ≠ "put" ∧ ("notes":Str) ≠ "add" ∧ ("notes":Str) ≠ "move" ∧ ("notes":Str) ≠ "draft" ∧ ("notes":Str) ≠ "wait" ∧ ("notes":Str) ≠ "save" ∧ ("notes":Str) ≠ "house" ∧ ("notes":Str) ≠ "user" ∧ ("notes":Str) ≠ "seen" ∧ ("notes":Str) ≠ "done" ∧ ("notes":Str) ≠ "back" ∧ ("notes":Str) ≠ "given" ∧ ("notes":Str) ≠ "writes" ∧ ("notes":Str) ≠ "users" ∧ ("notes":Str) ≠ "down" ∧ ("notes":Str) ≠ "away" ∧ ("notes":Str) ≠ "post" ∧ ("notes":Str) ≠ "first" ∧ ("notes":Str) ≠ "rows" ∧ ("notes":Str) ≠ "open" ∧ ("notes":Str) ≠ "time" ∧ ("notes":Str) ≠ "turns" ∧ ("notes":Str) ≠ "lives" ∧ ("notes":Str) ≠ "all" ∧ ("notes":Str) ≠ "note" := by decide +kernel
@[simp] theorem sn_lives : ("lives":Str) ≠ "look" ∧ ("lives":Str) ≠ "put" ∧ ("lives":Str) ≠ "add" ∧ ("lives":Str) ≠ "move" ∧ ("lives":Str) ≠ "draft" ∧ ("lives":Str) ≠ "wait" ∧ ("lives":Str) ≠ "save" ∧ ("lives":Str) ≠ "house" ∧ ("lives":Str) ≠ "user" ∧ ("lives":Str) ≠ "seen" ∧ ("lives":Str) ≠ "done" ∧ ("lives":Str) ≠ "back" ∧ ("lives":Str) ≠ "given" ∧ ("lives":Str) ≠ "writes" ∧ ("lives":Str) ≠ "users" ∧ ("lives":Str) ≠ "down" ∧ ("lives":Str) ≠ "away" ∧ ("lives":Str) ≠ "post" ∧ ("lives":Str) ≠ "first" ∧ ("lives":Str) ≠ "rows" ∧ ("lives":Str) ≠ "open" ∧ ("lives":Str) ≠ "time" ∧ ("lives":Str) ≠ "turns" ∧ ("lives":Str) ≠ "notes" ∧ ("lives":Str) ≠ "all" ∧ ("lives":Str) ≠ "note" := by decide +kernel
@[simp] theorem sn_all : ("all":Str) ≠ "look" ∧ ("all":Str) ≠ "put" ∧ ("all":Str) ≠ "add" ∧ ("all":Str) ≠ "move" ∧ ("all":Str) ≠ "draft" ∧ ("all":Str) ≠ "wait" ∧ ("all":Str) ≠ "save" ∧ ("all":Str) ≠ "house" ∧ ("all":Str) ≠ "user" ∧ ("all":Str) ≠ "seen" ∧ ("all":Str) ≠ "done" ∧ ("all":Str) ≠ "back" ∧ ("all":Str) ≠ "given" ∧ ("all":Str) ≠ "writes" ∧ ("all":Str) ≠ "users" ∧ ("all":Str) ≠ "down" ∧ ("all":Str) ≠ "away" ∧ ("all":Str) ≠ "post" ∧ ("all":Str) ≠ "first" ∧ ("all":Str) ≠ "rows" ∧ ("all":Str) ≠ "open" ∧ ("all":Str) ≠ "time" ∧ ("all":Str) ≠ "turns" ∧ ("all":Str) ≠ "notes" ∧ ("all":Str) ≠ "lives" ∧ ("all":Str) ≠ "note" := by decide +kernel
@[simp] theorem sn_note : ("note":Str) ≠ "look" ∧ ("note":Str) ≠ "put" ∧ ("note":Str) ≠ "add" ∧ ("note":Str) ≠ "move" ∧ ("note":Str) ≠ "draft" ∧ ("note":Str) ≠ "wait" ∧ ("note":Str) ≠ "save" ∧ ("note":Str) ≠ "house" ∧ ("note":Str) ≠ "user" ∧ ("note":Str) ≠ "seen" ∧ ("note":Str) ≠ "done" ∧ ("note":Str) ≠ "back" ∧ ("note":Str) ≠ "given" ∧ ("note":Str) ≠ "writes" ∧ ("note":Str) ≠ "users" ∧ ("note":Str) ≠ "down" ∧ ("note":Str) ≠ "away" ∧ ("note":Str) ≠ "post" ∧ ("note":Str) ≠ "first" ∧ ("note":Str) ≠ "rows" ∧ ("note":Str) ≠ "open" ∧ ("note":Str) ≠ "time" ∧ ("note":Str) ≠ "turns" ∧ ("note":Str) ≠ "notes" ∧ ("note":Str) ≠ "lives" ∧ ("note":Str) ≠ "all" := by decide +kernel
section
variable {S : Store}
@[simp] theorem gEqS {a b : Str} (ha : PyData.strOk a = true) (hb : PyData.strOk b = true) : gEq S (.v (.str a)) (.v (.str b)) = some (.v (.bl (decide (a = b)))) := by
  rw [gEqV (by simpa [okN] using ha) (by simpa [okN] using hb), eqD_str]
@[simp] theorem gNeS {a b : Str} (ha : PyData.strOk a = true) (hb : PyData.strOk b = true) : gNe S (.v (.str a)) (.v (.str b)) = some (.v (.bl (!decide (a = b)))) := by
  rw [gNeV (by simpa [okN] using ha) (by simpa [okN] using hb), eqD_str]
@[simp] theorem gInS2 {a b c : Str} : gIn S (.v (.str a)) (.v (.tup [.str b, .str c])) = some (.v (.bl (decide (b = a) || decide (c = a)))) := by
  simp [gIn, inR, R.dicR, R.lseq, R.tseq, flatOf, flatsOf, toPDs, toPD, PyData.eqv]
  rfl
@[simp] theorem gNotInS2 {a b c : Str} : gNotIn S (.v (.str a)) (.v (.tup [.str b, .str c])) = some (.v (.bl (!(decide (b = a) || decide (c = a))))) := by
  have h := gInS2 (S := S) (a := a) (b := b) (c := c)
  unfold gIn at h
  unfold gNotIn
  cases q : inR S (.v (.str a)) (.v (.tup [.str b, .str c])) with
  | none => rw [q] at h; cases h
  | some k => rw [q] at h; cases h; rfl
@[simp] theorem gInC4 {a b c d e : Str} : gIn S (.v (.str a)) (.c [.str b, .str c, .str d, .str e]) = some (.v (.bl (decide (b = a) || (decide (c = a) || (decide (d = a) || decide (e = a)))))) := by
  simp [gIn, inR, R.dicR, R.lseq, R.tseq, flatOf, flatsOf, toPDs, toPD, PyData.eqv]
  rfl
end
end Ev
namespace Ev
open PySem PySem.Spec PyProof.Rows L2 LamX NdefX
structure Lm where
  qual : Str
  params : Arguments
  body : Expr
  scope : Scope
  cl : List (Str × Addr)
  c : Addr
  dv : Value
abbrev Lm.fd (F : Lm) (doc pm ctv : Value) : FuncData := PySem.W.kdv_fn "<lambda>" F.qual F.params (.expr F.body) F.scope F.cl F.dv doc pm (.ref F.c) ctv
abbrev Lm.nf (F : Lm) : NF := ⟨"<lambda>", F.qual, F.params, [], F.scope, F.cl, F.c⟩
def LmO (f : Addr) (F : Lm) : HO := .ext fun h => ∃ (od : Option Addr) (sl : Array (Option Value)) (doc pm ctv : Value), h.get? f = some (⟨.type "function", od, .func (F.fd doc pm ctv), sl⟩ : Obj)
theorem lmO_tbl {f : Addr} {F : Lm} (ps : Array Value) : LmO f F ≠ .tbl ps := fun z => nomatch (show HO.ext _ = HO.tbl ps from z)
section
variable {CX : CXT} {P : Program} {w : World} {K : PySem.W.Frag} {mg : Str → Option Value} {base : Heap} {N ps fr : List Str} {F : Lm} {f : Addr} {k : Nat} {A : Around} {outer : List PySem.Env} {s : Shared} {H : Hp} {us : List Value} {vs : List V} {ws : List (Option V)} {Q : VK} {E : XK}
theorem lam_run (sc : NScope N ps fr F.scope) (hb : ∀ doc pm ctv, BindsTo s (F.fd doc pm ctv) ⟨[], []⟩ (ps.zip us)) (rv : Vals vs us) (hl : vs.length = ps.length) (room : Room (k + 1) A) (e0 : Env0 P w K mg base A outer s H)
    (hf : H f = some (LmO f F)) (hc : H F.c = some (CodeO F.c F.qual)) (C : CellsAt F.cl fr ws s.heap H)
    (body : Room k (A.deeper (envF F.nf f s.heap.objs.size)) → ∃ t, PE (ncx CX P w K mg base N F.nf f A outer s H E) F.body t ∧ t (startF N vs ws) H Q) :
    codeAny (model P w) A (.call (.ref f) ⟨[], []⟩) (CR CX outer P w H s Q E) s := by
  have nolim : s.heap.NoLimit := e0.mod.nolimit.keeps fun b o q => (e0.bs b o q).1
  obtain ⟨⟨od, sl, doc, pm, ctv, obj⟩, _⟩ := e0.hok f _ hf
  refine PySem.W.kla_callFunE room.depth obj rfl sc.co sc.gen rfl (codeO_at e0.hok hc) (hb doc pm ctv _ _ _ _ ?_)
  refine wpAny_newFunctionEnv sc.nocell (fun ⟨x, _⟩ hx => sc.par x (List.of_mem_zip hx).1) (fun g gns gsb => ⟨nolim.fresh _ gsb, ?_⟩) sc.kind
  show codeAny _ _ (.expr F.body (envF F.nf f s.heap.objs.size)) _ _
  have kp : ∀ b o, s.heap.get? b = some o → g.get? b = some o := fun b o q => gsb.extBut b o (Nat.ne_of_lt (Heap.lt_size q)) (Heap.get?_push_of_some _ q)
  obtain ⟨t, p, q⟩ := body (room.deeper _)
  have J : Inv (ncx CX P w K mg base N F.nf f A outer s H E) [] (startF N vs ws) H { s with heap := g, toks := s.toks + (ps.zip us).length } := inv_startN (F := F.nf) sc room.hd e0 hl rv C gns kp
  refine PySem.W.kla_codeExpr (wpAny_mono (p.run [] _ _ H Q J q) (fun v s' ⟨v', H', J', r', q'⟩ => ?_) fun _ _ z => z)
  exact ⟨v', H', J'.os, J'.bare, J'.base, J'.hok, r', q'⟩
end
section
variable {X : Cx} {pins : List (Addr × Obj)} {σ : L2.St} {H : Hp} {s : Shared}
theorem inv_lm {F : Lm} {tk : Nat} {doc pm ctv : Value} (I : Inv X pins σ H s) :
    Inv X pins σ (upd H s.heap.objs.size (LmO s.heap.objs.size F)) { s with heap := s.heap.push { cls := .type "function", data := .func (F.fd doc pm ctv) }, toks := tk } := by
  have at_ : (s.heap.push ({ cls := .type "function", data := .func (F.fd doc pm ctv) } : Obj)).get? s.heap.objs.size = some _ := Heap.get?_push_size _ rfl
  exact I.laid (fun b u q => Heap.get?_push_of_some _ q) (Nat.le_refl _) ⟨⟨_, _, doc, pm, ctv, at_⟩, ⟨_, at_⟩, fun _ _ ⟨od, sl, d, p, t, z⟩ st => ⟨od, sl, d, p, t, st _ z⟩⟩
def TabG (H : Hp) (P : Addr) (G : Addr → Prop) : Prop := ∀ ps, H P = some (.tbl ps) → ∀ pos c, codeAmong pos ps.toList = some (.ref c) → G c
structure LmMade (H : Hp) (P : Addr) (q : Str) (f : Addr) (F : Lm) (H1 : Hp) : Prop where
  ext : ExtN H H1
  non : ∀ b, H1 b = none → H b = none
  tab : TabS H1 P q
  new : H f = none
  fn : H1 f = some (LmO f F)
  code : H1 F.c = some (CodeO F.c q)
  codes : ∀ G : Addr → Prop, TabG H P G → (∀ c, H c = none → G c) → TabG H1 P G ∧ G F.c
theorem lam_tail {c P : Addr} {dv : Value} {params : Arguments} {body : Expr} {scope : Scope} {pos : Pos} {E : Value → Shared → Prop} {Q : Value → Shared → Prop} (I : Inv X pins σ H s) (TB : TabB X.base X.mg c P) (hcode : X.env.code = .ref c)
    (hT : TabS H P (X.env.qual ++ "<lambda>")) (hfree : ∀ y ∈ scope.names, y.2 = .free → ∃ c, X.env.cells.lookup y.1 = some c)
    (go : ∀ (f c' : Addr) (H1 : Hp) (s' : Shared), Inv X pins σ H1 s' → LmMade H P (X.env.qual ++ "<lambda>") f ⟨X.env.qual ++ "<lambda>", params, body, scope, cloFrom X.env.cells scope.names [], c', dv⟩ H1 → Q (.ref f) s') :
    wpAny (model X.prog X.w) X.A (makeTail "<lambda>" (X.env.qual ++ "<lambda>") params (.expr body) scope X.env dv .none none pos pos.line) Q E s := by
  obtain ⟨tab, atP, trip, names⟩ := hT
  have blt : s.heap.BuiltinsAt X.mg P := TB.bm.keeps I.bk
  have objP : s.heap.get? P = some { cls := .none, data := .fields tab } := I.hok P _ atP
  have glob := I.mod.glob.keeps I.bk
  have hd := TB.code.keeps I.bk
  cases there : codeAmong pos tab.toList with
  | some cv =>
    obtain ⟨c', rfl, kept⟩ := names pos cv there
    refine PySem.W.kdv_makeTailHit (closure_ok hfree) I.ok.glob glob hcode hd objP trip there blt fun ctv doc h' tk sup sz => ?_
    have J : Inv X pins σ H { s with heap := h', toks := tk } := I.kept sup
    have newF : H h'.objs.size = none := J.hok.fresh (Nat.le_refl _)
    have keep : ∀ b o, H b = some o → upd H h'.objs.size (LmO h'.objs.size ⟨X.env.qual ++ "<lambda>", params, body, scope, cloFrom X.env.cells scope.names [], c', dv⟩) b = some o := fun b o z => by rw [upd_ne (ne_of_none z newF)]; exact z
    refine go h'.objs.size c' _ _ (inv_lm (tk := tk) (doc := doc) (pm := (X.mg "__name__").getD .none) (ctv := ctv) J) ⟨fun b o z _ => keep b o z, fun b z => upd_none z, TabS.ext ⟨tab, atP, trip, names⟩ keep, newF, upd_same, keep _ _ kept, fun G g _ => ⟨fun ps z => g ps (by rw [upd_ne (ne_of_none atP newF)] at z; exact z), g tab atP pos c' there⟩⟩
  | none =>
    refine PySem.W.kdv_makeTail (closure_ok hfree) I.ok.glob glob hcode hd objP trip there TB.gP blt fun c' ctv doc h' tk sup lo hi rec_ grown => ?_
    obtain ⟨c2, oc, cvs, ct, ec, objC, datC, namC⟩ := rec_
    cases ec
    have newC : H c' = none := I.hok.fresh lo
    have J1 := inv_table (t' := tk) (more := #[rawInt pos.line, rawInt pos.col, .ref c']) I atP (fun b o ne z => sup b o ne z) grown lo ⟨oc, cvs, ct, objC, datC, namC⟩
    generalize hH1 : upd (upd H P (.tbl (tab ++ #[rawInt pos.line, rawInt pos.col, .ref c']))) c' (CodeO c' (X.env.qual ++ "<lambda>")) = H1 at J1
    have en : ExtN H H1 := fun b o z nt => by
      have nP : b ≠ P := fun y => by rw [y, atP] at z; exact nt tab (Option.some.inj z).symm
      rw [← hH1, upd_ne (ne_of_none z newC), upd_ne nP]
      exact z
    have list : (tab ++ #[rawInt pos.line, rawInt pos.col, .ref c']).toList = tab.toList ++ [rawInt pos.line, rawInt pos.col, .ref c'] := by simp
    have atC : H1 c' = some (CodeO c' (X.env.qual ++ "<lambda>")) := by rw [← hH1]; exact upd_same
    have tab1 : TabS H1 P (X.env.qual ++ "<lambda>") := by
      refine ⟨_, by rw [← hH1, upd_ne (ne_of_none atP newC)]; exact upd_same, by rw [list]; exact PySem.TriplesOk_snoc _ _ _ _ trip, fun p cv z => ?_⟩
      rw [list] at z
      rcases among_app _ trip z with z | z
      · obtain ⟨c0, y1, y2⟩ := names p cv z
        exact ⟨c0, y1, en _ _ y2 codeO_ne⟩
      · exact ⟨c', z, atC⟩
    have newF : H1 h'.objs.size = none := J1.hok.fresh (Nat.le_refl _)
    have keep : ∀ b o, H1 b = some o → upd H1 h'.objs.size (LmO h'.objs.size ⟨X.env.qual ++ "<lambda>", params, body, scope, cloFrom X.env.cells scope.names [], c', dv⟩) b = some o := fun b o z => by rw [upd_ne (ne_of_none z newF)]; exact z
    have back : ∀ b, H1 b = none → H b = none := fun b z => by rw [← hH1] at z; exact upd_none (upd_none z)
    refine go h'.objs.size c' _ _ (inv_lm (tk := tk) (doc := doc) (pm := (X.mg "__name__").getD .none) (ctv := ctv) J1) ⟨fun b o z nt => keep b o (en b o z nt), fun b z => back b (upd_none z), tab1.ext keep, back _ newF, upd_same, keep _ _ atC, fun G g gn => ⟨fun ps z => ?_, gn c' newC⟩⟩
    have at1 : H1 P = some (.tbl (tab ++ #[rawInt pos.line, rawInt pos.col, .ref c'])) := by rw [← hH1, upd_ne (ne_of_none atP newC)]; exact upd_same
    rw [keep _ _ at1] at z
    cases z
    intro p c y
    rw [list] at y
    rcases among_app _ trip y with y | y
    · exact g tab atP p c y
    · have y' : c = c' := Value.ref.inj y
      rw [y']
      exact gn c' newC
end
def tLm0 (P : Addr) (q : Str) (params : Arguments) (body : Expr) (scope : Scope) (cl : List (Str × Addr)) : TE := fun _ H Q => TabS H P q ∧ ∀ (f c' : Addr) (H1 : Hp), LmMade H P q f ⟨q, params, body, scope, cl, c', .none⟩ H1 → Q (.ref f) H1
def tLm1 (P : Addr) (q : Str) (params : Arguments) (body : Expr) (scope : Scope) (cl : List (Str × Addr)) : TE := fun _ H Q => TabS H P q ∧ ∀ (f c' T : Addr) (H1 : Hp), H T = none → H1 T = some (.tup [.int 0]) → LmMade (upd H T (.tup [.int 0])) P q f ⟨q, params, body, scope, cl, c', .ref T⟩ H1 → Q (.ref f) H1
section
variable {X : Cx} {c P : Addr} {params : Arguments} {body : Expr} {scope : Scope} {pos : Pos}
theorem free_of (ok : X.Ok) (h : ∀ y ∈ scope.names, y.2 = .free → X.env.scope.names.lookup y.1 = some .cell ∨ X.env.scope.names.lookup y.1 = some .free) : ∀ y ∈ scope.names, y.2 = .free → ∃ c, X.env.cells.lookup y.1 = some c :=
  fun y hy e => (h y hy e).elim (fun z => ok.has _ (.inl z)) fun z => ok.has _ (.inr z)
theorem pe_lm0 (TB : TabB X.base X.mg c P) (hcode : X.env.code = .ref c) (hfree : ∀ y ∈ scope.names, y.2 = .free → X.env.scope.names.lookup y.1 = some .cell ∨ X.env.scope.names.lookup y.1 = some .free) (hdef : defaultsOf params X.env = ([], []) := by rfl) :
    PE X (.Lambda params body scope pos) (tLm0 P (X.env.qual ++ "<lambda>") params body scope (cloFrom X.env.cells scope.names [])) := by
  refine ⟨fun pins s σ H Q I ⟨hT, h⟩ => PySem.W.kla_eval hdef ?_⟩
  rw [makeFunction_eq]
  simp only [List.zip_nil_right, List.filterMap_nil, List.isEmpty_nil, if_true, pure_bind]
  exact lam_tail I TB hcode hT (free_of I.ok hfree) fun f c' H1 s' J made => ⟨V.ref f, H1, J, rfl, h f c' H1 made⟩
theorem pe_lm1 {j : Nat} {dp : Pos} (TB : TabB X.base X.mg c P) (hcode : X.env.code = .ref c) (hfree : ∀ y ∈ scope.names, y.2 = .free → X.env.scope.names.lookup y.1 = some .cell ∨ X.env.scope.names.lookup y.1 = some .free)
    (hd : params.defaults = [.Constant (.int 0) j dp]) (hk : params.kw_defaults = []) :
    PE X (.Lambda params body scope pos) (tLm1 P (X.env.qual ++ "<lambda>") params body scope (cloFrom X.env.cells scope.names [])) := by
  refine ⟨fun pins s σ H Q I ⟨hT, h⟩ => PySem.W.kdv_lam (by rw [hd]; rfl) hk ?_⟩
  rw [hd]
  have p0 : PE X (.Constant (.int 0) j dp) (tC (.int 0)) := pe_int
  refine PySem.W.kdv_all1 (wpAny_mono (p0.run pins s σ H (fun v H1 => v = .int 0 ∧ H = H1) I ⟨rfl, rfl⟩) (fun u s1 ⟨v, H1, I1, r1, ev, eH⟩ => ?_) fun _ _ z => z)
  subst ev eH
  refine PySem.W.kdv_all0 ?_
  rw [makeFunction_eq]
  simp only [List.zip_nil_right, List.filterMap_nil, List.isEmpty_nil, List.isEmpty_cons, Bool.false_eq_true, if_false, if_true, pure_bind]
  refine wpAny_bind (wpAny_newTextTuple ?_)
  have newT : H s1.heap.objs.size = none := I1.hok.fresh (Nat.le_refl _)
  have J : Inv X pins σ (upd H s1.heap.objs.size (.tup [.int 0])) { s1 with heap := s1.heap.push { cls := .type "tuple", data := .seq [u].toArray } } :=
    I1.laid (t' := s1.toks) (fun b o z => Heap.get?_push_of_some _ z) (Nat.le_refl _) ⟨by decide, [u], .cons r1 .nil, _, Heap.get?_push_size _ rfl, rfl, _, rfl⟩
  have tab := hT.ext (H' := upd H s1.heap.objs.size (.tup [.int 0])) fun b o z => by rw [upd_ne (ne_of_none z newT)]; exact z
  exact lam_tail J TB hcode tab (free_of J.ok hfree) fun f c' H1 s' J1 made => ⟨V.ref f, H1, J1, rfl, h f c' _ H1 newT (made.ext _ _ upd_same fun ps => nofun) made⟩
end
end Ev
namespace Ev
open PySem PySem.Spec PyProof.Rows L2 LamX NdefX
def EndsAt (P : Program) (w : World) (A : Around) (h : Heap) : Prop := ∀ (s : Shared) (it a : Addr) (i : Nat) (its : Array Value) (Q : Option Value → Shared → Prop) (E : Value → Shared → Prop), s.heap = h → h.IsListIter it a i → h.IsList a its → its[i]? = none →
  (∀ h', (∀ b o, b ≠ it → h.get? b = some o → h'.get? b = some o) → Q none { s with heap := h' }) → wpAny (model P w) A (pyNext (.ref it)) Q E s
theorem ends_calm {P : Program} {w : World} {A : Around} {h : Heap} (hd : A.handled = none) : EndsAt P w A h := fun s it a i its Q E e st l n q => by
  subst e
  exact wpAny_pyNext_list_end hd st l n fun h' x => q h' x
theorem ends_hot {P : Program} {w : World} {A : Around} {h : Heap} {x1 : Addr} (hot : HotX.HotAt A x1 h) : EndsAt P w A h := fun s it a i its Q E e st l n q => by
  subst e
  obtain ⟨ob, atI, _, dat⟩ := id st
  obtain ⟨ol, atL, _, nl, datL⟩ := l
  have away : x1 ≠ it := fun z => by
    obtain ⟨_, o1, v1, g1, d1, c1⟩ := hot
    rw [z, atI] at g1
    cases g1
    rw [dat] at d1
    cases d1
    simp at c1
  unfold pyNext
  refine wpAny_bind (wpAny_attempt (wpAny_callSpecial?_slot (name := Str.ofString "__next__") st.typeIs slot_listiter_next (wpAny_call_entry slot_listiter_next st.typeIs entry_listiter_next ?_ (args_listiter_next _))))
  show wpAny _ _ (field (.ref it) 0 >>= _) _ _ _
  refine wpAny_bind (wpAny_field atI dat (x := .ref a) rfl ?_)
  show wpAny _ _ (if (Value.ref a == Value.none) = true then _ else _) _ _ _
  rw [if_neg (show ¬ ((Value.ref a == Value.none) = true) from Bool.false_ne_true)]
  show wpAny _ _ (field (.ref it) 1 >>= _) _ _ _
  refine wpAny_bind (wpAny_field atI dat (x := .int i 0) rfl ?_)
  show wpAny _ _ (seqItems? (.ref a) >>= _) _ _ _
  refine wpAny_bind (wpAny_seqItems atL datL ?_)
  simp only [Int.toNat_natCast, n]
  refine wpAny_bind (wpAny_rule (wpAny_bind (wpAny_setField atI dat (by simp) ?_)))
  show wpAny _ _ (newExc (.type "StopIteration") [] >>= _) _ _ _
  refine wpAny_bind ?_
  simp only [newExc, newTuple]
  refine wpAny_bind (wpAny_newObj_type ?_ (by size_fits))
  refine wpAny_bind (m := firstArgMember _ _) (wpAny_of_eq (a := Value.none) (by first | rfl | (simp only [firstArgMember]; rfl)) (wpAny_newObj_type ?_ (by size_fits)))
  obtain ⟨hh, o1, v1, g1, d1, c1⟩ := hot
  have g1' := (Heap.get?_update_other s.heap (Obj.mapFields (·.setIfInBounds 0 Value.none)) (Ne.symm away)).trans g1
  have g2 := Heap.get?_push_of_some { cls := Value.type "tuple", data := Data.seq ([] : List Value).toArray } g1'
  refine HotX.raiseNew_hot (x1 := x1) ⟨hh, o1, v1, Heap.get?_push_of_some _ g2, d1, c1⟩ (Nat.ne_of_lt (Heap.lt_size g2)) (Heap.get?_push_size _ rfl) rfl (by first | (simp; done) | (simp; omega)) ?_
  refine wpAny_bind (wpAny_isInstance (T := "StopIteration") (b := true) ⟨_, Heap.get?_update_self _ (Heap.get?_push_size _ rfl) rfl, rfl⟩ isSubtype_stop ?_)
  refine wpAny_pure (q _ fun b o ne g => ?_)
  have k1 := (Heap.get?_update_other s.heap (Obj.mapFields (·.setIfInBounds 0 Value.none)) (Ne.symm ne)).trans g
  have k2 := Heap.get?_push_of_some { cls := Value.type "tuple", data := Data.seq ([] : List Value).toArray } k1
  rw [Heap.get?_update_other _ _ (Nat.ne_of_gt (Heap.lt_size k2))]
  exact Heap.get?_push_of_some _ k2
end Ev
namespace Ev
open PySem PySem.Spec PyProof.Rows L2 LamX NdefX
theorem in_one {it : Addr} {p : Addr → Prop} (h : p it) : ∀ b ∈ [it], p b := fun b hb => by
  rw [List.mem_singleton.mp hb]
  exact h
section
variable {X : Cx}
theorem lcl_core {pins : List (Addr × Obj)} {s : Shared} {σ : L2.St} {H : Hp} {Q : VK} {elt tg l : Expr} {ifs : List Expr} {scope : Scope} {own : List (Str × Nat)} {pos pos' : Pos} {tl : TE} {g : TG} {tt : TT} {te : TE} {use : Option (Value → Sem Unit)} {Qf : Value → Shared → Prop}
    (hN : X.N.Nodup) (I : Inv X pins σ H s) (hl : PE X l tl) (ok : BlkOk X.N X.env.scope scope own)
    (mood : ∀ (s3 : Shared) (H3 : Hp) (it : Addr), Inv X pins σ H3 s3 → FpOk X pins H3 it → ∀ (ce : PySem.Env) (σ' : L2.St) (H' : Hp) (s' : Shared), Inv (X.blk s3 H3 scope ce [it]) [] σ' H' s' → EndsAt X.prog X.w X.A s'.heap)
    (hg : ∀ (s3 : Shared) (H3 : Hp) (C : Addr) (cl : List (Str × Addr)) (it : Addr), Inv X pins σ H3 s3 → FpOk X pins H3 it → PG (X.blk s3 H3 scope (compEnvC scope cl C X.env) [it]) tg g)
    (ht : ∀ (s3 : Shared) (H3 : Hp) (C : Addr) (cl : List (Str × Addr)) (it : Addr), Inv X pins σ H3 s3 → FpOk X pins H3 it → PTs (X.blk s3 H3 scope (compEnvC scope cl C X.env) [it]) ifs tt)
    (he : ∀ (s3 : Shared) (H3 : Hp) (C : Addr) (cl : List (Str × Addr)) (it : Addr), Inv X pins σ H3 s3 → FpOk X pins H3 it → PE (X.blk s3 H3 scope (compEnvC scope cl C X.env) [it]) elt te)
    (hs : ∀ x, foldedSetIterable l X.env x = pure x) (h : tLc (iList X.K tl) g tt te (own.map (·.2)) σ H Q)
    (out : ∀ D C s' m H', Inv X pins σ H' s' → Q (.ref D) H' → s'.heap.Ns C m → FpOk X pins H' C → compPost (model X.prog X.w) X.A X.xe use Qf (.ref D) C (.ok .next) s') :
    wpAny (model X.prog X.w) X.A (comprehension (.ListComp elt [⟨tg, l, ifs, 0⟩] scope pos) scope X.env pos' (newList []) false (eval l X.env) use) Qf X.xe s := by
  have caught : ∀ y ∈ scope.names, y.2 = .free → ∃ c, X.env.cells.lookup y.1 = some c := free_of I.ok ok.free
  refine wpAny_comprehension_free (use := use) rfl hs (closure_ok caught) ok.kind (fun y hy e => by rw [ok.uniq y hy, e]) (thn (hl.run pins s σ H _ I h) fun v s1 ⟨x, H1, I1, r1, q1⟩ => ?_)
  obtain ⟨a, rfl, ⟨xs0, sq0⟩, q1⟩ := q1
  cases r1
  obtain ⟨its0, rv0, p0, _⟩ := I1.list sq0
  refine wpAny_pyIter_list p0.isList ?_
  generalize hit : s1.heap.objs.size = it
  generalize hs2 : ({ s1 with heap := s1.heap.push { cls := .type "list_iterator", data := .fields #[.ref a, .int 0 0] } } : Shared) = s2
  have I2 : Inv X pins σ H1 s2 := by rw [← hs2]; exact I1.kept (t' := s1.toks) fun b o z => Heap.get?_push_of_some _ z
  have st2 : s2.heap.IsListIter it a 0 := by rw [← hs2, ← hit]; exact ⟨_, Heap.get?_push_size _ rfl, rfl, rfl⟩
  have fp2 : FpOk X pins H1 it := by rw [← hit]; exact I1.fpOk (Nat.le_refl _) (I1.hok.fresh (Nat.le_refl _))
  have lt2 : it < s2.heap.objs.size := by obtain ⟨_, z, _⟩ := st2; exact Heap.lt_size z
  refine wpAny_newObj_type (newEnv_comp ?_) (by show 0 ≤ sizeLine; decide)
  generalize hD : s2.heap.objs.size = D at lt2
  have newD : H1 D = none := I2.hok.fresh (Nat.le_of_eq hD)
  obtain ⟨W, ⟨m0, w0⟩, turn⟩ := q1 D newD
  generalize hs3 : ({ s2 with heap := s2.heap.push { cls := .type "list", data := .seq ([] : List Value).toArray } } : Shared) = s3
  generalize hH3 : upd H1 D (.lst []) = H3 at w0
  have I3 : Inv X pins σ H3 s3 := by
    rw [← hs3, ← hH3]
    exact I2.laid (t' := s2.toks) (fun b o z => Heap.get?_push_of_some _ z) (Nat.le_of_eq hD) ⟨Nat.zero_le _, [], 0, .nil, by rw [← hD]; exact Heap.get?_push_size _ rfl⟩
  have up3 : ∀ b o, s2.heap.get? b = some o → s3.heap.get? b = some o := fun b o z => by rw [← hs3]; exact Heap.get?_push_of_some _ z
  have st3 : s3.heap.IsListIter it a 0 := st2.at fun o z => up3 _ o z
  have no3 : H3 it = none := by rw [← hH3, upd_ne (Nat.ne_of_lt lt2)]; exact fp2.1
  have fp3 : FpOk X pins H3 it := ⟨no3, fp2.2⟩
  have lt3 : it < s3.heap.objs.size := by obtain ⟨_, z, _⟩ := st3; exact Heap.lt_size z
  generalize hC : s3.heap.objs.size = C
  generalize hcl : cellsFrom (s3.heap.objs.size + 1) scope.names (cloFrom X.env.cells scope.names []) = cl
  have I4 := block_start (fp := [it]) I3 ok hN (in_one ⟨fp3, lt3⟩)
  rw [hcl, hC] at I4
  have pg := hg s3 H3 C cl it I3 fp3
  have pt := ht s3 H3 C cl it I3 fp3
  have pe := he s3 H3 C cl it I3 fp3
  generalize hs4 : ({ s3 with heap := pushCells (s3.heap.push { cls := .type "dict", data := .dict #[] }) scope.names } : Shared) = s4 at I4
  have st4 : s4.heap.IsListIter it a 0 := st3.at fun o z => by rw [← hs4]; exact pushCells_keeps _ _ _ _ (Heap.get?_push_of_some _ z)
  have goal : codeAny (model X.prog X.w) X.A (.compStart (.ListComp elt [⟨tg, l, ifs, 0⟩] scope pos) 0 (.ref it) (.ref D) (compEnvC scope cl C X.env)) (compPost (model X.prog X.w) X.A X.xe use Qf (.ref D) C) s4 := by
    generalize hce : compEnvC scope cl C X.env = ce at I4 pg pt pe ⊢
    have locC : ce.locals = C := by subst hce; rfl
    have fpB : ∀ {σ' : L2.St} {H' : Hp} {s' : Shared}, Inv (X.blk s3 H3 scope ce [it]) [] σ' H' s' → H' it = none → FpOk (X.blk s3 H3 scope ce [it]) [] H' it := fun {σ' H' s'} J n =>
      have m : it ∈ [it] := List.mem_cons_self
      ⟨n, (J.ok.exf it m).1, J.ok.exfs it m, .inl m, (J.ok.exf it m).2, fun p hp => nomatch (show p ∈ ([] : List (Addr × Obj)) from hp)⟩
    have loop : codeAny (model X.prog X.w) X.A (.compLoop (.ListComp elt [⟨tg, l, ifs, 0⟩] scope pos) 0 (.ref it) (.ref D) ce) (compPost (model X.prog X.w) X.A X.xe use Qf (.ref D) C) s4 := by
      refine compLoop_any (fun n s' => ∃ i H', Inv (X.blk s3 H3 scope ce [it]) [] (wipe σ (own.map (·.2))) H' s' ∧ s'.heap.IsListIter it a i ∧ H' it = none ∧ W i n H') ?_ m0 ⟨0, H3, I4, st4, no3, w0⟩
      rintro n s5 ⟨i, H5, I5, st5, n5, w5⟩
      have F5 := fpB I5 n5
      obtain ⟨f0, f1, f2, f3, f4, f5⟩ := F5
      rcases turn i n H5 w5 with ⟨⟨xs, sq, hx⟩, q5⟩ | ⟨⟨xs, x, sq, hx⟩, Nx, hNx, step⟩
      · obtain ⟨its, rv, pl, _⟩ := I5.list (X := X.blk s3 H3 scope ce [it]) sq
        have len := rv.length
        refine mood s3 H3 it I3 fp3 ce _ H5 s5 I5 s5 it a i its.toArray _ _ rfl st5 pl.isList (by simp; omega) fun h' sup => ?_
        have I6 : L2.Inv (X.blk s3 H3 scope ce [it]) [] (wipe σ (own.map (·.2))) H5 { s5 with heap := h' } := I5.turned (t' := s5.toks) sup f0 f1 f3 f4 f5
        have J : Inv X pins σ H5 { s5 with heap := h' } := I3.call' (ch := [it]) I6.os I6.base I6.hok I6.bare (in_one ⟨fp3.2.2.2.1, fp3.2.1, fp3.2.2.2.2.1, fp3.2.2.2.2.2⟩)
        have nC : H5 C = none := by
          have z : H5 ce.locals = none := I6.free
          rw [locC] at z
          exact z
        obtain ⟨m, ns, _⟩ := I6.loc
        have ns : h'.Ns ce.locals m := ns
        rw [locC] at ns
        exact out D C _ m H5 J q5 ns (by rw [← hC]; exact I3.fpOk (Nat.le_refl _) (by rw [hC]; exact nC))
      · obtain ⟨its, rv, pl, _⟩ := I5.list (X := X.blk s3 H3 scope ce [it]) sq
        obtain ⟨u, hu, ru⟩ := rv.get hx
        refine wpAny_pyNext_list_item st5 pl.isList (x := u) (by simpa using hu) fun h' st' sb => ?_
        have I6 : L2.Inv (X.blk s3 H3 scope ce [it]) [] (wipe σ (own.map (·.2))) H5 { s5 with heap := h' } := I5.turned (t' := s5.toks) (fun b o nb z => (sb.2 b nb).trans z) f0 f1 f3 f4 f5
        obtain ⟨oi, gi, ci, di⟩ := id st'
        refine go_of (s := { s5 with heap := h' }) gi ci di (by decide) ?_
        have I7 := I6.pinned (fp := [it]) (in_one (fpB I6 n5)) (in_one ⟨oi, gi, fun v y => by rw [di] at y; cases y⟩)
        refine thnF (pg.run _ _ _ H5 x u _ I7 ru (step x H5 ⟨rfl, fun ys hy => by rw [I5.list_inj (X := X.blk s3 H3 scope ce [it]) hy sq]; exact hx⟩)) fun _ s8 ⟨σ8, H8, I8, wp8, q8⟩ => ?_
        refine thnF (pt.run _ s8 σ8 H8 _ I8 q8) fun b s9 ⟨H9, I9, q9⟩ => ?_
        have fin : ∀ {s' : Shared} {H' : Hp}, Inv (X.blk s3 H3 scope ce [it]) ([] ++ pinsAt [it] h') σ8 H' s' → Nx H' → ∃ m, m < n ∧ ∃ i H', Inv (X.blk s3 H3 scope ce [it]) [] (wipe σ (own.map (·.2))) H' s' ∧ s'.heap.IsListIter it a i ∧ H' it = none ∧ W i m H' := fun {s' H'} J nx => by
          obtain ⟨m, lt, w⟩ := hNx H' nx
          have pin := J.pin (it, oi) (List.mem_append_right _ (List.mem_append_right _ (mem_pinsAt List.mem_cons_self gi)))
          refine ⟨m, lt, i + 1, H', (J.unpinned (pins := [])).weak (by rw [← wp8, wipe_length]) (fun j v z => ?_), ⟨oi, pin.1, ci, di⟩, pin.2.1, w⟩
          rw [← wp8] at z
          exact (wipe_some z).1
        cases b with
        | false =>
          simp only [Bool.false_eq_true, if_false] at q9 ⊢
          exact fin I9 q9
        | true =>
          simp only [if_true] at q9 ⊢
          refine thnF (pe.run _ s9 σ8 H9 _ I9 q9) fun z s10 ⟨y, H10, I10, r10, acc, accD, small, nx⟩ => ?_
          exact app_ok (X := X.blk s3 H3 scope ce [it]) I10 accD small r10 fun s11 I11 => fin I11 nx
    exact codeAny_compStart_list loop (wpAny_pyIter_listiter st4 loop)
  rw [hC] at hcl
  rw [← hcl] at goal
  exact goal
theorem pe_lcl {elt tg l : Expr} {ifs : List Expr} {scope : Scope} {own : List (Str × Nat)} {pos : Pos} {tl : TE} {g : TG} {tt : TT} {te : TE} (hN : X.N.Nodup) (hl : PE X l tl) (ok : BlkOk X.N X.env.scope scope own)
    (parts : ∀ (pins : List (Addr × Obj)) (σ : L2.St), (∀ (s3 : Shared) (H3 : Hp) (it : Addr), Inv X pins σ H3 s3 → FpOk X pins H3 it → ∀ (ce : PySem.Env) (σ' : L2.St) (H' : Hp) (s' : Shared), Inv (X.blk s3 H3 scope ce [it]) [] σ' H' s' → EndsAt X.prog X.w X.A s'.heap) ∧
      ∀ (s3 : Shared) (H3 : Hp) (C : Addr) (cl : List (Str × Addr)) (it : Addr), Inv X pins σ H3 s3 → FpOk X pins H3 it →
        PG (X.blk s3 H3 scope (compEnvC scope cl C X.env) [it]) tg g ∧ PTs (X.blk s3 H3 scope (compEnvC scope cl C X.env) [it]) ifs tt ∧ PE (X.blk s3 H3 scope (compEnvC scope cl C X.env) [it]) elt te)
    (hs : ∀ x, foldedSetIterable l X.env x = pure x := by intro _; rfl) :
    PE X (.ListComp elt [⟨tg, l, ifs, 0⟩] scope pos) (tLc (iList X.K tl) g tt te (own.map (·.2))) := by
  refine ⟨fun pins s σ H Q I h => ?_⟩
  rw [eval_ListComp]
  obtain ⟨mood, ps⟩ := parts pins σ
  refine lcl_core hN I hl ok mood (fun s3 H3 C cl it J f => (ps s3 H3 C cl it J f).1) (fun s3 H3 C cl it J f => (ps s3 H3 C cl it J f).2.1) (fun s3 H3 C cl it J f => (ps s3 H3 C cl it J f).2.2) hs h fun D C s' m H' J q ns f => ⟨m, ns, fun h'' sb => ?_⟩
  exact ⟨.ref D, H', J.turned (t' := s'.toks) (fun b o nb z => (sb.2 b nb).trans z) f.1 f.2.1 f.2.2.2.1 f.2.2.2.2.1 f.2.2.2.2.2, rfl, q⟩
theorem mood_calm {pins : List (Addr × Obj)} {σ : L2.St} {scope : Scope} (hc : X.calm = true) : ∀ (s3 : Shared) (H3 : Hp) (it : Addr), Inv X pins σ H3 s3 → FpOk X pins H3 it → ∀ (ce : PySem.Env) (σ' : L2.St) (H' : Hp) (s' : Shared), Inv (X.blk s3 H3 scope ce [it]) [] σ' H' s' → EndsAt X.prog X.w X.A s'.heap :=
  fun _ _ _ I _ _ _ _ _ _ => ends_calm (I.ok.hd hc)
theorem mood_hot {pins : List (Addr × Obj)} {σ : L2.St} {scope : Scope} (hc : L2H.HotC X) : ∀ (s3 : Shared) (H3 : Hp) (it : Addr), Inv X pins σ H3 s3 → FpOk X pins H3 it → ∀ (ce : PySem.Env) (σ' : L2.St) (H' : Hp) (s' : Shared), Inv (X.blk s3 H3 scope ce [it]) [] σ' H' s' → EndsAt X.prog X.w X.A s'.heap := by
  intro s3 H3 it I f ce σ' H' s' J
  obtain ⟨p, ⟨hh, vs, dat, ctx⟩, mem⟩ := hc
  obtain ⟨g, n, nl, nf, _⟩ := I.pin p (List.mem_append_left _ mem)
  refine ends_hot ⟨hh, p.2, vs, J.base.keep p.1 p.2 g n (fun z => ?_) (fun z => ?_), dat, ctx⟩
  · rcases List.mem_cons.mp (I.stkSub _ z) with y | y
    · exact nl y
    · exact nf y
  · have y : p.1 = it := by simpa using z
    exact f.2.2.2.2.2 p (List.mem_append_left _ mem) y
end
end Ev
namespace Ev
open PySem PySem.Spec PyProof.Rows L2
abbrev Xx := Env → Store → Option (Nat × Store)
section
variable {W : Wd} {xa : Nat → Addr}
end
section
variable {P : Program} {w : World} {K : PySem.W.Frag} {mg : Str → Option Value} {base : Heap}
def TkE (X : Cx) (E : XK) : Prop := L2N.Takes X fun cls d _ H => E cls d H
theorem TkE.pass {X : Cx} {E : XK} (tk : TkE X E) : Passes (L2N.CX X.prog X.w) X E := L2N.passes_call tk fun _ _ _ _ h => h
theorem tk_fn {N : List Str} {qual : Str} {sc : Scope} {f : Addr} {cdv : Value} {A : Around} {outer : List PySem.Env} {s : Shared} {H : Hp} {E : XK} : TkE (cxOf (L2N.CX P w) P w K mg base N qual sc f cdv A outer s H E) E :=
  L2N.takes_of rfl rfl rfl rfl
end
end Ev
namespace Ev
open PySem PySem.Spec PyProof.Rows L2 LamX NdefX
theorem PS.imp {X : Cx} {st : Stmt} {t t' : TS} (h : PS X st t) (i : ∀ D σ H, t' D σ H → t D σ H) : PS X st t' := ⟨fun pins s σ H D I q => h.run pins s σ H D I (i D σ H q)⟩
theorem PE.imp {X : Cx} {e : Expr} {t t' : TE} (h : PE X e t) (i : ∀ σ H Q, t' σ H Q → t σ H Q) : PE X e t' := ⟨fun pins s σ H Q I q => h.run pins s σ H Q I (i σ H Q q)⟩
def fLst (fa : E) : Fi := fun ρ S => bnd (fa ρ S) fun x S1 => (x.lseq S1).map fun xs => ((xs, x.src xs), S1)
theorem simI_lst {W : Wd} {t : TE} {fa : E} (ha : SimE W t fa) : SimI W (iList W.K t) (fLst fa) := by
  intro σ H ι ρ S H0 its src ok S' Z N e Rq hR
  obtain ⟨x, S1, e1, e⟩ := zat e
  cases q : x.lseq S1 with
  | none => rw [q] at e; cases e
  | some xs =>
    rw [q] at e
    simp only [Option.map_some, Option.some.injEq, Prod.mk.injEq] at e
    obtain ⟨⟨rfl, e2⟩, rfl⟩ := e
    refine ha.then Z N e1 fun v1 H1 ι1 Z1 X1 N1 R1 => ?_
    obtain ⟨a, vs, P, ev, h1, h2, hp, ho, h3, h4⟩ := list_src Z1 R1 q
    refine ⟨a, ev, ⟨vs, .inl h1⟩, hR _ H1 ι1 P Z1 X1 hp (fun hok => src_own N Z X1 Z1 R1 q ev hp ho h3 (by rw [e2]; exact hok)) (walks_list fun ι' S2 H2 Z2 le sm kp al => ?_)⟩
    obtain ⟨ws, w1, w2⟩ := h4 ι' S2 H2 Z2 le sm kp (by rw [e2]; exact al)
    exact ⟨ws, .inl w1, w2⟩
structure LmAt (H : Hp) (f : Addr) (F : Lm) : Prop where
  fn : H f = some (LmO f F)
  code : H F.c = some (CodeO F.c F.qual)
  dv : F.dv = .none ∨ ∃ T, F.dv = .ref T ∧ H T = some (.tup [.int 0])
theorem LmAt.keep {H H' : Hp} {f : Addr} {F : Lm} (h : LmAt H f F) (k : ExtN H H') : LmAt H' f F :=
  ⟨k _ _ h.fn lmO_tbl, k _ _ h.code codeO_ne, h.dv.imp id fun ⟨T, e, q⟩ => ⟨T, e, k _ _ q fun _ => nofun⟩⟩
section
variable {P : Program} {w : World} {K : PySem.W.Frag} {mg : Str → Option Value} {base : Heap}
def LmX (P : Program) (w : World) (K : PySem.W.Frag) (mg : Str → Option Value) (base : Heap) (k : Nat) (F : Lm) (fr : List Str) (ws : List (Option V)) (tl : XK → Hp → Prop) : Prop :=
  ∀ (f : Addr) (A : Around) (outer : List PySem.Env) (s : Shared) (H : Hp) (Q : VK) (E : XK), Room (k + 1) A → Env0 P w K mg base A outer s H → LmAt H f F → CellsAt F.cl fr ws s.heap H → tl E H → codeAny (model P w) A (.call (.ref f) ⟨[], []⟩) (CR (L2N.CX P w) outer P w H s Q E) s
theorem tk_ncx {N : List Str} {F : NF} {f : Addr} {A : Around} {outer : List PySem.Env} {s : Shared} {H : Hp} {E : XK} : TkE (ncx (L2N.CX P w) P w K mg base N F f A outer s H E) E := L2N.takes_of rfl rfl rfl rfl
end
def tAct (f : Addr) (F : Lm) (tl : XK → Hp → Prop) (W : WX) : TE := fun σ H _ => σ[0]? = some (some (.ref f)) ∧ LmAt H f F ∧ tl (fun cls d H' => W cls d σ H') H
theorem pe_act {Y : Cx} {W : WX} {k : Nat} {f : Addr} {F : Lm} {fr : List Str} {ws : List (Option V)} {tl : XK → Hp → Prop} {a : Str} {p1 p2 : Pos} (tk : L2N.Takes Y W) (room : Room (k + 1) Y.A) (L : LmX Y.prog Y.w Y.K Y.mg Y.base k F fr ws tl)
    (C : CellsAt F.cl fr ws Y.s_0.heap Y.H_0) (nf : ∀ y c, F.cl.lookup y = some c → c ∉ Y.fs) (nx : Y.ex = []) (hN : Y.N[0]? = some a) (hv : Vis Y.env.scope a) (hd : (a == ("__debug__" : Str)) = false := by decide) (hcd : (a == ("__classdict__" : Str)) = false := by decide) :
    PE Y (.Call (.Name a p1) [] [] p2) (tAct f F tl W) := by
  refine ⟨fun pins s σ H Q I ⟨h0, at_, h⟩ => ?_⟩
  refine wpAny_Call_Name_kw (thn ((pe_var (pos := p1) (i := 0) hN hv hd hcd).run pins s σ H (fun v H1 => v = .ref f ∧ H = H1) I ⟨.ref f, h0, rfl, rfl⟩) fun u s1 ⟨v, H1, J, r, ev, eH⟩ => ?_)
  subst ev eH
  cases r
  obtain ⟨⟨od, sl, doc, pm, ctv, obj⟩, _⟩ := J.hok f _ at_.fn
  refine PySem.W.callWith_F0 ⟨_, _, _, _, obj⟩ ?_
  have C1 := C.later nf (fun y c _ => by rw [nx]; simp) J
  refine wpAny_call (codeAny_mono (L f Y.A Y.stack s1 H Q _ room J.env0 at_ C1 h) fun r s' q => ?_)
  cases r with
  | error e => exact L2N.passAt tk σ pins H s1 e s' J q
  | ok fl => cases fl <;> first | exact J.after q | exact False.elim q
def wordOf : Nat → Str
  | 0 => "deed"
  | 1 => "user"
  | 2 => "file"
  | 3 => "busy"
  | 4 => "letter"
  | 5 => "history"
  | _ => "text"
structure XF (K : PySem.W.Frag) (mg : Str → Option Value) (xa : Nat → Addr) (le : Addr) : Prop where
  gl : mg "LentError" = some (.ref le)
  g0 : mg "BadDeed" = some (.ref (xa 0))
  g1 : mg "BadUser" = some (.ref (xa 1))
  g2 : mg "BadFile" = some (.ref (xa 2))
  g3 : mg "Busy" = some (.ref (xa 3))
  g4 : mg "BadLetter" = some (.ref (xa 4))
  g5 : mg "BadHistory" = some (.ref (xa 5))
  g6 : mg "BadText" = some (.ref (xa 6))
  exm : ∀ c, c < 7 → PySem.W.exmOne K (.ref (xa c)) (.ref le) = some true
  exc : ∀ c, c < 7 → ExcC K (xa c)
  kit : ∀ c j, c < 7 → j < 7 → PySem.W.kitOne K (.ref (xa c)) (.ref (xa j)) = some (decide (c = j))
  kv : ∀ c, c < 7 → PySem.W.kitOne K (.ref (xa c)) (.type "ValueError") = some true
abbrev tBs (l : List Bool) : TA := l.foldr (fun b t => tCons (tC (.bl b)) t) tNil
abbrev tWs (l : List Str) : TA := l.foldr (fun b t => tCons (tC (.str b)) t) tNil
abbrev tS1 (c : Nat) : TS := tAsg (tLst (tBs [decide (c = 0), decide (c = 1), decide (c = 2), decide (c = 3)])) (gName 3)
abbrev tS2 (K : PySem.W.Frag) (c : Nat) : TS := tAsg (tOp (rAddA K) (tVar 3) (tLst (tBs [decide (c = 4), decide (c = 5), decide (c = 6)]))) (gName 3)
abbrev tS3 : TS := tAsg (tLst (tWs ["deed", "user", "file", "busy", "letter", "history", "text"])) (gName 4)
abbrev tS4 (K : PySem.W.Frag) : TS := tIfS (tOr (tNot (tB (tC (.bl true)))) (tTest (tOp (rNeD K) (tVar 3) (tLc (iList K (tVar 4)) (gName 5) tYes (tOp (rEqD K) (tVar 1) (tVar 5)) [5])))) (tRet (tC (.bl false))) tNext
end Ev
namespace Ev
open PySem PySem.Spec PyProof.Rows L2 LamX NdefX
abbrev kindsA (c : Nat) : List E := [eLit (.bl (decide (c = 0))), eLit (.bl (decide (c = 1))), eLit (.bl (decide (c = 2))), eLit (.bl (decide (c = 3)))]
abbrev kindsB (c : Nat) : List E := [eLit (.bl (decide (c = 4))), eLit (.bl (decide (c = 5))), eLit (.bl (decide (c = 6)))]
abbrev ks1 (c : Nat) : List D := [.bl (decide (c = 0)), .bl (decide (c = 1)), .bl (decide (c = 2)), .bl (decide (c = 3))]
abbrev ks2 (c : Nat) : List D := ks1 c ++ [.bl (decide (c = 4)), .bl (decide (c = 5)), .bl (decide (c = 6))]
abbrev words7 : List D := [.str "deed", .str "user", .str "file", .str "busy", .str "letter", .str "history", .str "text"]
def Good (xa : Nat → Addr) (word : Str) (Q : VK) : XK := fun cls d H' => ∃ c, c < 5 ∧ cls = .ref (xa c) ∧ d = none ∧ wordOf c = word ∧ ∀ H'', (∀ b o, H' b = some o → H'' b = some o) → Q (.bl true) H''
end Ev
namespace Ev
open PySem PySem.Spec PyProof.Rows L2 LamX NdefX
structure XR (K : PySem.W.Frag) (xa : Nat → Addr) : Prop where
  ex : ∀ c, c < 5 → PySem.W.excIn K (xa c) [.type "ValueError", .type "Exception", .type "BaseException", .type "object"] "ValueError.__new__" = true
  kp : ∀ c, c < 5 → PySem.W.keepIn K (.ref (xa c)) = true
  ty : ∀ c, c < 5 → PySem.W.typeIn K (.ref (xa c)) = some (.type "type")
  sb : ∀ c, c < 5 → PySem.W.subIn K (.ref (xa c)) (.type "BaseException") = some true
structure KnX (P : Program) (w : World) (K : PySem.W.Frag) (mg : Str → Option Value) (base : Heap) (k : Nat) (x : Str) (ps : List Str) (sp : Sp) : Prop where
  ex : ∃ (f : Addr) (fd : FuncData), FnOk P w K mg base (L2N.CX P w) k f fd ps sp ∧ mg x = some (.ref f) ∧ PySem.W.keepIn K (.ref f) = true ∧ Binds K fd ps []
structure KnMX (P : Program) (w : World) (K : PySem.W.Frag) (mg : Str → Option Value) (base : Heap) (k : Nat) (C : Addr) (m : Str) (ps : List Str) (sp : Sp) : Prop where
  ex : ∃ (f : Addr) (fd : FuncData), FnOk P w K mg base (L2N.CX P w) k f fd ps sp ∧ Meth K C m f ∧ Binds K fd ps []
structure KnIX (P : Program) (w : World) (K : PySem.W.Frag) (mg : Str → Option Value) (base : Heap) (k : Nat) (C : Addr) (x : Str) (ps : List Str) (sp : Sp) : Prop where
  ex : ∃ (f : Addr) (fd : FuncData), FnOk P w K mg base (L2N.CX P w) k f fd ps sp ∧ Mk K C f ∧ Binds K fd ps [] ∧ mg x = some (.ref C)
section
variable {X : Cx} {k : Nat} {C : Addr} {m x : Str} {ps : List Str} {sp : Sp} {o e : Expr} {es : List Expr} {to : TE} {t : TA} {E : XK} {apos pos p : Pos}
theorem pe_knX (G : KnX X.prog X.w X.K X.mg X.base k x ps sp) (tk : TkE X E) (hr : Room k X.A) (hg : Gl X x) (ha : PA X (e :: es) t)
    (hdb : (x == ("__debug__" : Str)) = false := by decide) (he : starEach (e :: es) X.env = (false, eval e X.env) :: starEach es X.env := by rfl) (hpl : (backTo pos (starEach es X.env)).any (·.1) = false := by rfl) :
    PE X (.Call (.Name x p) (e :: es) [] pos) (tCall sp [] E t) := by
  obtain ⟨f, fd, F, hm, hk, hb⟩ := G.ex
  exact pe_call F hr hg hm hk hb .nil tk.pass ha hdb he hpl
end
structure CapAt (X : Cx) (σ : L2.St) (h : Heap) (H : Hp) : Prop where
  all : ∀ y c, X.env.cells.lookup y = some c → H c = none ∧ ∃ v, h.IsCell c v
  has : ∀ (j : Nat) (y : Str) (v : V), X.N[j]? = some y → σ[j]? = some (some v) → X.env.scope.names.lookup y = some .cell ∨ X.env.scope.names.lookup y = some .free → ∃ c u, X.env.cells.lookup y = some c ∧ RelV v u ∧ h.IsCell c (some u)
section
variable {X : Cx} {pins : List (Addr × Obj)} {σ : L2.St} {H : Hp} {s : Shared}
theorem capAt_of (I : Inv X pins σ H s) : CapAt X σ s.heap H := by
  refine ⟨fun y c e => ⟨I.freeC y c e, I.cell y c e⟩, fun j y v hj hv k => ?_⟩
  obtain ⟨m, _, look⟩ := I.loc
  obtain ⟨u, r, l⟩ := look j y v hj hv (k.elim (fun z => .inr (.inl z)) fun z => .inr (.inr z))
  rcases l with ⟨z, _⟩ | ⟨_, c, hc, hcell⟩
  · have z' : X.env.scope.names.lookup y = some .local := z
    rcases k with k | k <;> rw [k] at z' <;> cases z'
  · exact ⟨c, u, hc, r, hcell⟩
theorem CapAt.cells {h : Heap} {cl : List (Str × Addr)} {fr : List Str} {js : List Nat} (C : CapAt X σ h H) (ok : X.Ok) (c : Caps X cl fr js) : CellsAt cl fr (js.map (slotAt σ)) h H := by
  have len : js.length = fr.length := by
    have q := congrArg List.length c.at_
    simpa using q
  refine ⟨by rw [List.length_map]; exact len, fun y a e => C.all y a (c.sub y a e), fun x y a e1 e2 => ok.inj x y a (c.sub x a e1) (c.sub y a e2), fun i y e => ?_⟩
  have q : (js.map fun j => X.N[j]?)[i]? = some (some y) := by rw [c.at_, List.getElem?_map, e]; rfl
  rw [List.getElem?_map] at q
  obtain ⟨j, hj, hy⟩ := Option.map_eq_some_iff.mp q
  have k := c.kin y (List.mem_of_getElem? e)
  obtain ⟨a, ha⟩ : ∃ a, X.env.cells.lookup y = some a := k.elim (fun z => ok.has y (.inl z)) fun z => ok.has y (.inr z)
  refine ⟨a, c.sup y (List.mem_of_getElem? e) a ha, fun v ev => ?_⟩
  rw [List.getElem?_map, hj] at ev
  obtain ⟨a', u, ha', r, hcell⟩ := C.has j y v hy (slotAt_some (Option.some.inj ev)) k
  rw [ha] at ha'
  cases ha'
  exact ⟨u, r, hcell⟩
theorem cells_nofr (I : Inv X pins σ H s) (fn : ∀ y, X.fn y = true) : ∀ y c, X.env.cells.lookup y = some c → c ∉ frs X.stack := fun y c e z => by
  rcases List.mem_cons.mp (I.stkSub _ z) with q | q
  · exact I.cne y c e q
  · obtain ⟨_, o, ho, _⟩ := I.ok.funs.mem q
    exact absurd (Nat.lt_of_lt_of_le (Heap.lt_size ho) (I.ok.cab y c (fn y) e)) (Nat.lt_irrefl _)
theorem CapAt.blk {scope : Scope} {ce : PySem.Env} {it : Addr} {pins' : List (Addr × Obj)} {σ' : L2.St} {H' : Hp} {s' : Shared} (I : Inv X pins σ H s) (f : FpOk X pins H it) (fn : ∀ y, X.fn y = true) (J : Inv (X.blk s H scope ce [it]) pins' σ' H' s') : CapAt X σ s'.heap H' := by
  have C := capAt_of I
  have nf := cells_nofr I fn
  have ni : ∀ y c, X.env.cells.lookup y = some c → c ∉ [it] := fun y c e z => f.2.2.2.2.1 y c e (List.mem_singleton.mp z)
  have kp : ∀ y c v, X.env.cells.lookup y = some c → s.heap.IsCell c v → s'.heap.IsCell c v := fun y c v e ⟨o, ho, hd⟩ => ⟨o, J.base.keep c o ho (C.all y c e).1 (nf y c e) (ni y c e), hd⟩
  refine ⟨fun y c e => ?_, fun j y v h1 h2 h3 => ?_⟩
  · obtain ⟨n, v, z⟩ := C.all y c e
    obtain ⟨o, ho, hd⟩ := id z
    exact ⟨J.base.free c o ho n (ni y c e), v, kp y c v e z⟩
  · obtain ⟨c, u, e, r, z⟩ := C.has j y v h1 h2 h3
    exact ⟨c, u, e, r, kp y c _ e z⟩
end
def RefAt (P : Program) (w : World) (K : PySem.W.Frag) (mg : Str → Option Value) (base : Heap) (xa : Nat → Addr) (k : Nat) (X0 : Cx) (σ0 : L2.St) (word : Str) (f : Addr) (H : Hp) (Q : VK) : Prop :=
  ∃ (F : Lm) (fr : List Str) (js : List Nat) (tl : XK → Hp → Prop), LmAt H f F ∧ Caps X0 F.cl fr js ∧ LmX P w K mg base k F fr (js.map (slotAt σ0)) tl ∧ (∀ E E' H, (∀ cls d H', E cls d H' → E' cls d H') → tl E H → tl E' H) ∧ tl (Good xa word Q) H
end Ev
namespace Ev
open PySem PySem.Spec PyProof.Rows L2 LamX NdefX
section
variable {W : Wd} {ι ι' : Nat → Addr} {n n' : Nat} {H H' H0 H1 : Hp} {S S' : Store} {ρ : Env} {σ : L2.St}
theorem RepO.nt {a : Addr} {o : Ob} (h : RepO W ι n H a o) (ps : Array Value) : H a ≠ some (.tbl ps) := fun z => by
  cases o with
  | lst xs => obtain ⟨_, e, _⟩ := h; rw [e] at z; cases z
  | dic k kvs =>
    cases k with
    | K => obtain ⟨_, e, _⟩ := h; rw [e] at z; cases z
    | T => obtain ⟨_, e, _⟩ := h; rw [e] at z; cases z
    | N => obtain ⟨_, e, _⟩ := h; rw [e] at z; cases z
  | lck k kvs =>
    obtain ⟨_, h⟩ := h
    cases k with
    | K => obtain ⟨_, e, _⟩ := h; rw [e] at z; cases z
    | T => obtain ⟨_, e, _⟩ := h; rw [e] at z; cases z
    | N => exact h.elim
  | ins c fs => obtain ⟨_, _, e, _⟩ := h; rw [e] at z; cases z
theorem extN_tup (e : ExtN H H1) : ∀ a vs, H a = some (.tup vs) → H1 a = some (.tup vs) := fun a vs q => e a _ q fun _ => nofun
theorem RSt.extN (Z : RSt W ι H S) (e : ExtN H H1) : RSt W ι H1 S :=
  ⟨fun h o q => (Z.at_ h o q).mono (Nat.le_refl _) (fun _ _ => rfl) (extN_tup e) fun u z => e _ u z fun ps y => (Z.at_ h o q).nt ps (by rw [z, y]), Z.inj⟩
theorem slot_any {o : Option V} {s : Sl} (h : SlOk W H0 ι n H o s) (no : s.own = false) : SlOk W H' ι n H o s := by
  cases s with
  | l xs => cases no
  | d k kvs => cases no
  | _ => exact h
theorem slot_extN {o : Option V} {s : Sl} (e : ExtN H H1) (h : SlOk W H0 ι n H o s) (no : s.own = false) : SlOk W H0 ι n H1 o s := by
  have rp : ∀ d v, Rep ι n H d v → Rep ι n H1 d v := fun d v => Rep.mono (Nat.le_refl _) (fun _ _ => rfl) (extN_tup e) d v
  have rps : ∀ d v, Reps ι n H d v → Reps ι n H1 d v := fun d v => Reps.mono (Nat.le_refl _) (fun _ _ => rfl) (extN_tup e) d v
  cases s with
  | no => trivial
  | v d => obtain ⟨v, e1, e2⟩ := h; exact ⟨v, e1, rp _ _ e2⟩
  | l xs => cases no
  | b xs => obtain ⟨a, vs, e1, e2, e3, e4⟩ := h; exact ⟨a, vs, e1, e _ _ e2 (fun _ => nofun), rps _ _ e3, e4⟩
  | f xs =>
    obtain ⟨a, vs, e1, e2, e3⟩ := h
    refine ⟨a, vs, e1, ?_, rps _ _ e3⟩
    rcases e2 with ⟨o, q, ap⟩ | q
    · exact .inl ⟨o, e _ _ q (fun _ => nofun), ap⟩
    · exact .inr q
  | d k kvs => cases no
structure Mid (W : Wd) (ι : Nat → Addr) (ρ : Env) (S : Store) (σ : L2.St) (H : Hp) : Prop where
  Z : RSt W ι H S
  N : REnv W H ι S.length H ρ σ
  own : ∀ (i : Nat) s, ρ[i]? = some s → s.own = false
def lendS : Sl → Sl
  | .l xs => .b xs
  | .d _ _ => .no
  | s => s
theorem lendS_own (s : Sl) : (lendS s).own = false := by cases s <;> rfl
theorem lendS_ok {o : Option V} {s : Sl} (h : SlOk W H0 ι n H o s) : SlOk W H' ι n H o (lendS s) := by
  cases s with
  | l xs => obtain ⟨a, vs, e1, e2, e3, _, e4⟩ := h; exact ⟨a, vs, e1, e2, e3, e4⟩
  | d k kvs => trivial
  | _ => exact h
theorem Mid.of {B : Bas} (A : At W B ι ρ S σ H) : Mid W ι (ρ.map lendS) S σ H where
  Z := A.Z
  N := ⟨by rw [List.length_map]; exact A.N.len, fun i s o e1 e2 => by
      rw [List.getElem?_map] at e1
      obtain ⟨s0, q, rfl⟩ := Option.map_eq_some_iff.mp e1
      exact lendS_ok (A.N.at_ i s0 o q e2), fun i j s t a _ e1 _ ho => by
      rw [List.getElem?_map] at e1
      obtain ⟨s0, q, rfl⟩ := Option.map_eq_some_iff.mp e1
      rw [lendS_own] at ho
      cases ho⟩
  own := fun i s e => by
    rw [List.getElem?_map] at e
    obtain ⟨s0, q, rfl⟩ := Option.map_eq_some_iff.mp e
    exact lendS_own s0
theorem Mid.mk' (Z : RSt W ι H S) (len : ρ.length = σ.length) (own : ∀ (i : Nat) s, ρ[i]? = some s → s.own = false) (at_ : ∀ (i : Nat) s o, ρ[i]? = some s → σ[i]? = some o → SlOk W H ι S.length H o s) : Mid W ι ρ S σ H :=
  ⟨Z, ⟨len, at_, fun i j s t a _ e1 _ ho => by rw [own i s e1] at ho; cases ho⟩, own⟩
theorem Mid.extN (M : Mid W ι ρ S σ H) (e : ExtN H H1) : Mid W ι ρ S σ H1 :=
  .mk' (M.Z.extN e) M.N.len M.own fun i s o e1 e2 => slot_any (slot_extN e (M.N.at_ i s o e1 e2) (M.own i s e1)) (M.own i s e1)
theorem Mid.ext (M : Mid W ι ρ S σ H) (X : Ext ι S.length H ι' S'.length H') (Z' : RSt W ι' H' S') : Mid W ι' ρ S' σ H' :=
  .mk' Z' M.N.len M.own fun i s o e1 e2 => slot_any ((M.N.ext X M.Z).at_ i s o e1 e2) (M.own i s e1)
theorem Mid.set (M : Mid W ι ρ S σ H) {i : Nat} {v : Option V} (hi : ρ[i]? = some .no) : Mid W ι ρ S (σ.set i v) H :=
  .mk' M.Z (by rw [List.length_set]; exact M.N.len) M.own fun j s o e1 e2 => by
    rcases zaB e2 with ⟨z, _⟩ | ⟨_, e2⟩
    · subst z
      rw [hi] at e1
      cases e1
      trivial
    · exact M.N.at_ j s o e1 e2
theorem Mid.at (M : Mid W ι ρ S σ H) : At W ⟨ι, S, H, ι, 0, fun _ => none⟩ ι ρ S σ H :=
  ⟨M.Z, .refl, M.N, Nat.zero_le _, fun h hh => absurd hh (Nat.not_lt_zero _), (fun a o q => by cases q), (fun a o i s q => by cases q)⟩
def KpX (ι : Nat → Addr) (n : Nat) (H : Hp) (a : Addr) (o : HO) : Prop := H a = some o ∧ ∀ h, h < n → a ≠ ι h
structure LmK (ι : Nat → Addr) (n : Nat) (H : Hp) (f : Addr) (F : Lm) : Prop where
  fn : KpX ι n H f (LmO f F)
  code : KpX ι n H F.c (CodeO F.c F.qual)
  dv : F.dv = .none ∨ ∃ T, F.dv = .ref T ∧ KpX ι n H T (.tup [.int 0])
theorem LmK.at {f : Addr} {F : Lm} (k : LmK ι n H f F) : LmAt H f F := ⟨k.fn.1, k.code.1, k.dv.imp id fun ⟨T, e, q⟩ => ⟨T, e, q.1⟩⟩
def Stay (ι : Nat → Addr) (n : Nat) (H : Hp) (ι' : Nat → Addr) (n' : Nat) (H' : Hp) : Prop := ∀ a o, KpX ι n H a o → (∀ ps, o ≠ .tbl ps) → KpX ι' n' H' a o
theorem Stay.refl : Stay ι n H ι n H := fun _ _ k _ => k
theorem Stay.trans {ι2 : Nat → Addr} {n2 : Nat} {H2 : Hp} (a : Stay ι n H ι' n' H') (b : Stay ι' n' H' ι2 n2 H2) : Stay ι n H ι2 n2 H2 := fun c o k nt => b c o (a c o k nt) nt
theorem Stay.extN (e : ExtN H H1) : Stay ι n H ι n H1 := fun a o k nt => ⟨e a o k.1 nt, k.2⟩
theorem Stay.ext (X : Ext ι n H ι' n' H') : Stay ι n H ι' n' H' := fun a o k _ => ⟨X.keep a o k.1 k.2, X.apart k.1 k.2⟩
theorem LmK.stay {f : Addr} {F : Lm} (k : LmK ι n H f F) (s : Stay ι n H ι' n' H') : LmK ι' n' H' f F :=
  ⟨s _ _ k.fn lmO_tbl, s _ _ k.code codeO_ne, k.dv.imp id fun ⟨T, e, q⟩ => ⟨T, e, s _ _ q fun _ => nofun⟩⟩
theorem extN_of (k : ∀ b o, H b = some o → H1 b = some o) : ExtN H H1 := fun b o q _ => k b o q
theorem upd_keep {a : Addr} {o : HO} (h : H a = none) : ∀ b u, H b = some u → upd H a o b = some u := fun b u q => by rw [upd_ne (ne_of_none q h)]; exact q
structure MidT (W : Wd) (P : Addr) (q : Str) (ι : Nat → Addr) (ρ : Env) (S : Store) (σ : L2.St) (H : Hp) : Prop where
  m : Mid W ι ρ S σ H
  tab : TabS H P q
  cod : TabG H P fun c => ∀ h, h < S.length → c ≠ ι h
theorem MidT.upd {P : Addr} {q : Str} (M : MidT W P q ι ρ S σ H) {a : Addr} {o : HO} (h : H a = none) : MidT W P q ι ρ S σ (upd H a o) := by
  refine ⟨M.m.extN (extN_of (upd_keep h)), M.tab.ext (upd_keep h), fun ps z => M.cod ps ?_⟩
  obtain ⟨ps0, e, _⟩ := M.tab
  rw [upd_ne (ne_of_none e h)] at z
  exact z
theorem MidT.made {P : Addr} {q : Str} {f : Addr} {F : Lm} (M : MidT W P q ι ρ S σ H) (L : LmMade H P q f F H1) : MidT W P q ι ρ S σ H1 ∧ (∀ h, h < S.length → F.c ≠ ι h) := by
  obtain ⟨c1, c2⟩ := L.codes _ M.cod fun c n => M.m.Z.ne_new n
  exact ⟨⟨M.m.extN L.ext, L.tab, c1⟩, c2⟩
structure Ls where
  d : Bool
  params : Arguments
  body : Expr
  scope : Scope
  cl : List (Str × Addr)
abbrev Ls.lm (l : Ls) (q : Str) (c : Addr) (dv : Value) : Lm := ⟨q, l.params, l.body, l.scope, l.cl, c, dv⟩
def Ls.dOk (l : Ls) (dv : Value) : Prop := (l.d = true → dv ≠ .none) ∧ (l.d = false → dv = .none)
def tMk (P : Addr) (q : Str) (l : Ls) : TE := match l.d with
  | true => tLm1 P q l.params l.body l.scope l.cl
  | false => tLm0 P q l.params l.body l.scope l.cl
theorem mk_sem {P : Addr} {q : Str} {l : Ls} {σ' : L2.St} {Q : VK} (M : MidT W P q ι ρ S σ H)
    (go : ∀ (f c : Addr) (dv : Value) (H1 : Hp), MidT W P q ι ρ S σ H1 → Stay ι S.length H ι S.length H1 → LmK ι S.length H1 f (l.lm q c dv) → l.dOk dv → Q (.ref f) H1) : tMk P q l σ' H Q := by
  unfold tMk
  cases hd : l.d with
  | true =>
    refine ⟨M.tab, fun f c T H1 newT atT L => ?_⟩
    have M0 := M.upd (o := .tup [.int 0]) newT
    obtain ⟨M1, ap⟩ := M0.made L
    have s0 : Stay ι S.length H ι S.length (upd H T (.tup [.int 0])) := .extN (extN_of (upd_keep newT))
    have kT : KpX ι S.length (upd H T (.tup [.int 0])) T (.tup [.int 0]) := ⟨upd_same, M.m.Z.ne_new newT⟩
    have s1 : Stay ι S.length (upd H T (.tup [.int 0])) ι S.length H1 := .extN L.ext
    exact go f c (.ref T) H1 M1 (s0.trans s1) ⟨⟨L.fn, M0.m.Z.ne_new L.new⟩, ⟨L.code, ap⟩, .inr ⟨T, rfl, s1 _ _ kT fun _ => nofun⟩⟩ ⟨fun _ => nofun, fun z => by rw [hd] at z; cases z⟩
  | false =>
    refine ⟨M.tab, fun f c H1 L => ?_⟩
    obtain ⟨M1, ap⟩ := M.made L
    exact go f c .none H1 M1 (.extN L.ext) ⟨⟨L.fn, M.m.Z.ne_new L.new⟩, ⟨L.code, ap⟩, .inl rfl⟩ ⟨(fun z => by rw [hd] at z; cases z), fun _ => rfl⟩
def tMks (P : Addr) (q : Str) : List Ls → TA
  | [] => tNil
  | l :: r => tCons (tMk P q l) (tMks P q r)
inductive Stand (q : Str) (ι : Nat → Addr) (n : Nat) (H : Hp) : List Ls → List Addr → Prop
  | nil : Stand q ι n H [] []
  | cons {l : Ls} {r : List Ls} {f : Addr} {fs : List Addr} (c : Addr) (dv : Value) : LmK ι n H f (l.lm q c dv) → l.dOk dv → Stand q ι n H r fs → Stand q ι n H (l :: r) (f :: fs)
theorem Stand.stay {q : Str} {ls : List Ls} {fs : List Addr} (h : Stand q ι n H ls fs) (s : Stay ι n H ι' n' H') : Stand q ι' n' H' ls fs := by
  induction h with
  | nil => exact .nil
  | cons c dv k d _ ih => exact .cons c dv (k.stay s) d ih
theorem Stand.append {q : Str} {ls ms : List Ls} {fs gs : List Addr} (h : Stand q ι n H ls fs) (k : Stand q ι n H ms gs) : Stand q ι n H (ls ++ ms) (fs ++ gs) := by
  induction h with
  | nil => exact k
  | cons c dv l d _ ih => exact .cons c dv l d ih
theorem Stand.length {q : Str} {ls : List Ls} {fs : List Addr} (h : Stand q ι n H ls fs) : fs.length = ls.length := by
  induction h with
  | nil => rfl
  | cons _ _ _ _ _ ih => simp [ih]
theorem mks_sem {P : Addr} {q : Str} {σ' : L2.St} : ∀ {ls : List Ls} {H : Hp} {Q : List V → Hp → Prop}, MidT W P q ι ρ S σ H →
    (∀ (fs : List Addr) (H1 : Hp), MidT W P q ι ρ S σ H1 → Stay ι S.length H ι S.length H1 → Stand q ι S.length H1 ls fs → Q (fs.map V.ref) H1) → tMks P q ls σ' H Q
  | [], H, Q, M, go => go [] H M .refl .nil
  | l :: r, H, Q, M, go => mk_sem M fun f c dv H1 M1 s1 k d => mks_sem M1 fun fs H2 M2 s2 st => go (f :: fs) H2 M2 (s1.trans s2) (.cons c dv (k.stay s2) d st)
end
end Ev
namespace Ev
open PySem PySem.Spec PyProof.Rows L2 LamX NdefX
theorem pe_lclS {X : Cx} {elt tg l : Expr} {ifs : List Expr} {scope : Scope} {own : List (Str × Nat)} {pos : Pos} {tl : TE} {g : TG} {tt : L2.St → TT} {te : TE} (hN : X.N.Nodup) (hl : PE X l tl) (ok : BlkOk X.N X.env.scope scope own)
    (parts : ∀ (pins : List (Addr × Obj)) (σ : L2.St), (∀ (s3 : Shared) (H3 : Hp) (it : Addr), Inv X pins σ H3 s3 → FpOk X pins H3 it → ∀ (ce : PySem.Env) (σ' : L2.St) (H' : Hp) (s' : Shared), L2.Inv (X.blk s3 H3 scope ce [it]) [] σ' H' s' → EndsAt X.prog X.w X.A s'.heap) ∧
      ∀ (s3 : Shared) (H3 : Hp) (C : Addr) (cl : List (Str × Addr)) (it : Addr), Inv X pins σ H3 s3 → FpOk X pins H3 it →
        PG (X.blk s3 H3 scope (compEnvC scope cl C X.env) [it]) tg g ∧ PTs (X.blk s3 H3 scope (compEnvC scope cl C X.env) [it]) ifs (tt σ) ∧ PE (X.blk s3 H3 scope (compEnvC scope cl C X.env) [it]) elt te)
    (hs : ∀ x, foldedSetIterable l X.env x = pure x := by intro _; rfl) :
    PE X (.ListComp elt [⟨tg, l, ifs, 0⟩] scope pos) (fun σ H Q => tLc (iList X.K tl) g (tt σ) te (own.map (·.2)) σ H Q) := by
  refine ⟨fun pins s σ H Q I h => ?_⟩
  rw [eval_ListComp]
  obtain ⟨mood, ps⟩ := parts pins σ
  refine lcl_core hN I hl ok mood (fun s3 H3 C cl it J f => (ps s3 H3 C cl it J f).1) (fun s3 H3 C cl it J f => (ps s3 H3 C cl it J f).2.1) (fun s3 H3 C cl it J f => (ps s3 H3 C cl it J f).2.2) hs h fun D C s' m H' J q ns f => ⟨m, ns, fun h'' sb => ?_⟩
  exact ⟨.ref D, H', J.turned (t' := s'.toks) (fun b o nb z => (sb.2 b nb).trans z) f.1 f.2.1 f.2.2.2.1 f.2.2.2.2.1 f.2.2.2.2.2, rfl, q⟩
section
variable {W : Wd} {ι ι' : Nat → Addr} {n n' : Nat} {H H' H0 H1 : Hp} {S S' : Store} {ρ : Env} {σ : L2.St} {PT : Addr} {q : Str}
theorem MidT.pa (M : MidT W PT q ι ρ S σ H) : ∀ h, h < S.length → PT ≠ ι h := fun h hh z => by
  obtain ⟨ps, e, _⟩ := M.tab
  have r := M.m.Z.at_ h S[h] (by simp [hh])
  rw [z] at e
  exact r.nt ps e
theorem MidT.ext (M : MidT W PT q ι ρ S σ H) (X : Ext ι S.length H ι' S'.length H') (Z' : RSt W ι' H' S') : MidT W PT q ι' ρ S' σ H' := by
  have pa := M.pa
  obtain ⟨ps, e, tr, nm⟩ := M.tab
  have e' := X.keep PT _ e pa
  have kc : ∀ pos c, codeAmong pos ps.toList = some (.ref c) → H' c = some (CodeO c q) ∧ ∀ h, h < S'.length → c ≠ ι' h := fun pos c z => by
    obtain ⟨c', z1, z2⟩ := nm pos _ z
    cases z1
    have ap := M.cod ps e pos c z
    exact ⟨X.keep c _ z2 ap, X.apart z2 ap⟩
  refine ⟨M.m.ext X Z', ⟨ps, e', tr, fun pos cv z => ?_⟩, fun ps' z pos c y => ?_⟩
  · obtain ⟨c', rfl, _⟩ := nm pos cv z
    exact ⟨c', rfl, (kc pos c' z).1⟩
  · rw [e'] at z
    cases z
    exact (kc pos c y).2
theorem MidT.extF (M : MidT W PT q ι ρ S σ H) (k : ∀ b o, H b = some o → H' b = some o) : MidT W PT q ι ρ S σ H' := by
  refine ⟨M.m.extN (extN_of k), M.tab.ext k, fun ps z => M.cod ps ?_⟩
  obtain ⟨ps0, e, _⟩ := M.tab
  have e' := k _ _ e
  rw [z] at e'
  cases e'
  exact e
theorem MidT.set (M : MidT W PT q ι ρ S σ H) {i : Nat} {v : Option V} (hi : ρ[i]? = some .no) : MidT W PT q ι ρ S (σ.set i v) H := ⟨M.m.set hi, M.tab, M.cod⟩
theorem Stand.get {ls : List Ls} {fs : List Addr} (h : Stand q ι n H ls fs) : ∀ {i : Nat} {l : Ls}, ls[i]? = some l → ∃ f c dv, fs[i]? = some f ∧ LmK ι n H f (l.lm q c dv) ∧ l.dOk dv := by
  induction h with
  | nil => intro i l e; simp at e
  | @cons l0 r f fs c dv k d _ ih =>
    intro i l e
    cases i with
    | zero => simp at e; subst e; exact ⟨f, c, dv, rfl, k, d⟩
    | succ i =>
      obtain ⟨f', c', dv', e1, e2⟩ := ih (i := i) (l := l) (by simpa using e)
      exact ⟨f', c', dv', by simpa using e1, e2⟩
section
variable {P : Program} {w : World} {mg : Str → Option Value} {base : Heap} {xa : Nat → Addr} {k : Nat} {X0 : Cx} {word : Str}
def RzAt (P : Program) (w : World) (mg : Str → Option Value) (base : Heap) (xa : Nat → Addr) (k : Nat) (X0 : Cx) (W : Wd) (q : Str) (ρ : Env) (σ : L2.St) (word : Str) (l : Ls) (S S' : Store) : Prop :=
  ∀ (ι : Nat → Addr) (H : Hp) (f c : Addr) (dv : Value) (Q : VK), Mid W ι ρ S σ H → LmK ι S.length H f (l.lm q c dv) → l.dOk dv →
    (∀ H' ι', RSt W ι' H' S' → Ext ι S.length H ι' S'.length H' → ∀ H'', (∀ b o, H' b = some o → H'' b = some o) → Q (.bl true) H'') → RefAt P w W.K mg base xa k X0 σ word f H Q
inductive RzAll (P : Program) (w : World) (mg : Str → Option Value) (base : Heap) (xa : Nat → Addr) (k : Nat) (X0 : Cx) (W : Wd) (q : Str) (ρ : Env) (σ : L2.St) (word : Str) : List Ls → Store → Store → Prop
  | nil {S : Store} : RzAll P w mg base xa k X0 W q ρ σ word [] S S
  | cons {l : Ls} {r : List Ls} {S S1 S' : Store} : RzAt P w mg base xa k X0 W q ρ σ word l S S1 → RzAll P w mg base xa k X0 W q ρ σ word r S1 S' → RzAll P w mg base xa k X0 W q ρ σ word (l :: r) S S'
end
end
end Ev
namespace Ev
open PySem PySem.Spec PyProof.Rows L2 LamX NdefX
section
variable {W : Wd} {ι ι' : Nat → Addr} {n n' : Nat} {H H' H0 H1 : Hp} {S S' : Store} {ρ : Env} {σ : L2.St} {PT : Addr} {q : Str}
section
variable {P : Program} {w : World} {mg : Str → Option Value} {base : Heap} {xa : Nat → Addr} {k : Nat} {X0 : Cx}
end
theorem asg_sem {ls : List Ls} {i : Nat} {D : Ends} (M : MidT W PT q ι ρ S σ H) (hl : ls.length ≤ 100) (hi : ρ[i]? = some .no)
    (go : ∀ (p : Addr) (fs : List Addr) (H1 : Hp), MidT W PT q ι ρ S (σ.set i (some (.ref p))) H1 → Stand q ι S.length H1 ls fs → KpX ι S.length H1 p (.lst (fs.map V.ref)) → (∀ (j : Nat) xs, ρ[j]? = some (.b xs) → (σ.set i (some (.ref p)))[j]? ≠ some (some (.ref p))) → D.nx (σ.set i (some (.ref p))) H1) : tAsg (tLst (tMks PT q ls)) (gName i) D σ H := by
  refine mks_sem M fun fs H1 M1 s1 st => ⟨by rw [List.length_map, st.length, sizeLine_eq]; omega, fun p hp => ?_⟩
  have s2 : Stay ι S.length H1 ι S.length (upd H1 p (.lst (fs.map V.ref))) := .extN (extN_of (upd_keep hp))
  refine go p fs _ ((M1.upd hp).set hi) (st.stay s2) ⟨upd_same, M1.m.Z.ne_new hp⟩ fun j xs ej es => ?_
  rcases zaB es with ⟨z, _⟩ | ⟨_, es⟩
  · subst z
    rw [hi] at ej
    cases ej
  · obtain ⟨a, vs, e1, e2, _⟩ := M1.m.N.at_ j _ _ ej es
    cases e1
    rw [hp] at e2
    cases e2
theorem stay_mut {p : Addr} {xs ys : List V} (kp : KpX ι n H p (.lst xs)) : ∀ a o, KpX ι n H a o → o ≠ .lst xs → KpX ι n (upd H p (.lst ys)) a o := fun a o k ne => ⟨by
  rw [upd_ne fun y => ne (by have z := k.1; rw [y, kp.1] at z; exact (Option.some.inj z).symm)]
  exact k.1, k.2⟩
theorem Stand.mut {p : Addr} {xs ys : List V} {ls : List Ls} {fs : List Addr} (h : Stand q ι n H ls fs) (kp : KpX ι n H p (.lst xs)) : Stand q ι n (upd H p (.lst ys)) ls fs := by
  have s := stay_mut (ys := ys) kp
  induction h with
  | nil => exact .nil
  | cons c dv k d _ ih => exact .cons c dv ⟨s _ _ k.fn (by unfold LmO; exact nofun), s _ _ k.code (by unfold CodeO; exact nofun), k.dv.imp id fun ⟨T, e, z⟩ => ⟨T, e, s _ _ z nofun⟩⟩ d ih
end
end Ev
namespace Ev
open PySem PySem.Spec PyProof.Rows L2
inductive OutX where
  | o (out : Out)
  | x (c : Nat) (d : Option Int) (S : Store)
abbrev Sy := Env → Store → Option OutX
abbrev RuY := List R → Store → Option (Nat × Option Int × Store)
def fieldOf : Nat → Str
  | 5 => "number"
  | _ => "row"
def PXr (W : Wd) (xa : Nat → Addr) (ι0 : Nat → Addr) (n0 : Nat) (H0 : Hp) (E : XK) (c : Nat) (d : Option Int) (S' : Store) : Prop := match d with
  | none => ∀ H' ι', RSt W ι' H' S' → Ext ι0 n0 H0 ι' S'.length H' → E (.ref (xa c)) none H'
  | some i => ∀ H' ι' (dd : Addr), RSt W ι' H' S' → Ext ι0 n0 H0 ι' S'.length H' → H' dd = some (.xd [(fieldOf c, .int i)]) → (∀ h, h < S'.length → dd ≠ ι' h) → E (.ref (xa c)) (some dd) H'
def PostX (W : Wd) (xa : Nat → Addr) (B : Bas) (E : XK) (D : Ends) : OutX → Prop
  | .o out => Post W B D out
  | .x c d S' => PXr W xa B.ι0 B.S0.length B.H0 E c d S'
def SimY (W : Wd) (xa : Nat → Addr) (t : XK → TS) (f : Sy) : Prop := ∀ (B : Bas) (σ : L2.St) (H : Hp) (ι : Nat → Addr) (ρ : Env) (S : Store) (out : OutX),
  At W B ι ρ S σ H → f ρ S = some out → ∀ (E : XK) (D : Ends), PostX W xa B E D out → t E D σ H
def spY (W : Wd) (xa : Nat → Addr) (m : Nat) (run : RuY) : Sp := fun vs H _ E => vs.length = m ∧ ∃ (ι : Nat → Addr) (S : Store) (Ha : Hp) (rs : List R) (c : Nat) (d : Option Int) (S' : Store), RSt W ι H S ∧ All2 (RR W Ha ι S.length H) rs vs ∧ run rs S = some (c, d, S') ∧ PXr W xa ι S.length H E c d S'
def runY (n : Nat) (ev : Sy) : RuY := fun rs S => (slotsIn rs).bind fun ss => if ss.length ≤ n then (match ev (ss ++ List.replicate (n - ss.length) .no) S with
  | some (.x c d S') => some (c, d, S')
  | _ => none) else none
def SimEY (W : Wd) (xa : Nat → Addr) (t : XK → TE) (f : Env → Store → Option (Nat × Option Int × Store)) : Prop := ∀ (σ : L2.St) (H : Hp) (ι : Nat → Addr) (ρ : Env) (S : Store) (H0 : Hp) (c : Nat) (d : Option Int) (S' : Store), RSt W ι H S → REnv W H0 ι S.length H ρ σ → f ρ S = some (c, d, S') →
  ∀ (E : XK) (Q : VK), PXr W xa ι S.length H E c d S' → t E σ H Q
section
variable {W : Wd} {xa : Nat → Addr} {ι ι1 ι0 : Nat → Addr} {n0 : Nat} {H H1 H0 : Hp} {S S1 S' : Store} {E : XK} {c : Nat} {d : Option Int}
theorem PXr.ext (h : PXr W xa ι0 n0 H0 E c d S') (X1 : Ext ι0 n0 H0 ι1 S1.length H1) (Z0 : ∀ {ι' H'}, Ext ι1 S1.length H1 ι' S'.length H' → Ext ι0 n0 H0 ι' S'.length H') : PXr W xa ι1 S1.length H1 E c d S' := by
  cases d with
  | none => exact fun H' ι' Z' X' => h H' ι' Z' (Z0 X')
  | some i => exact fun H' ι' dd Z' X' => h H' ι' dd Z' (Z0 X')
theorem PXr.at {B : Bas} {ρ : Env} {σ : L2.St} (h : PXr W xa B.ι0 B.S0.length B.H0 E c d S') (A : At W B ι ρ S σ H) : PXr W xa ι S.length H E c d S' :=
  h.ext A.X fun X' => A.X.trans X' A.Z
theorem PXr.on (h : PXr W xa ι S.length H E c d S') (Z : RSt W ι H S) (X1 : Ext ι S.length H ι1 S1.length H1) (Z1 : RSt W ι1 H1 S1) : PXr W xa ι1 S1.length H1 E c d S' :=
  h.ext X1 fun X' => X1.trans X' Z1
def yLift (f : Sx) : Sy := fun ρ S => (f ρ S).map .o
theorem simY_lift {t : TS} {f : Sx} (hf : SimS W t f) : SimY W xa (fun _ => t) (yLift f) := by
  intro B σ H ι ρ S out A e E D hD
  unfold yLift at e
  cases q : f ρ S with
  | none => rw [q] at e; cases e
  | some o =>
    rw [q] at e
    cases e
    exact hf B σ H ι ρ S o A q D hD
def ySeq (f g : Sy) : Sy := fun ρ S => match f ρ S with
  | some (.o (.next ρ1 S1)) => g ρ1 S1
  | r => r
theorem simY_seq {t u : XK → TS} {f g : Sy} (hf : SimY W xa t f) (hg : SimY W xa u g) : SimY W xa (fun E => tSeq (t E) (u E)) (ySeq f g) := by
  intro B σ H ι ρ S out A e E D hD
  unfold ySeq at e
  split at e
  · rename_i ρ1 S1 q
    exact hf B σ H ι ρ S _ A q E _ fun σ' H' ι' A' => hg B σ' H' ι' ρ1 S1 out A' e E D hD
  · rename_i hn
    refine hf B σ H ι ρ S _ A e E _ ?_
    cases out with
    | x c d S' => exact hD
    | o out => cases out with
      | next ρ1 S1 => exact absurd e (hn ρ1 S1)
      | _ => exact hD
def yIf (ft : Ev.E) (f g : Sy) : Sy := fun ρ S => bnd (ft ρ S) fun x S1 => match x.bool with
  | some true => f ρ S1
  | some false => g ρ S1
  | none => none
theorem simY_if {tt : TT} {ft : Ev.E} {t u : XK → TS} {f g : Sy} (ht : SimT W tt ft) (hf : SimY W xa t f) (hg : SimY W xa u g) : SimY W xa (fun E => tIfS tt (t E) (u E)) (yIf ft f g) := by
  intro B σ H ι ρ S out A e E D hD
  obtain ⟨x, S1, e1, e⟩ := zat e
  split at e
  · rename_i q
    have ex := bool_eq q
    subst ex
    exact ht.then A.Z A.N e1 fun H1 ι1 Z1 X1 N1 => hf B σ H1 ι1 ρ S1 out (A.ext X1 Z1) e E D hD
  · rename_i q
    have ex := bool_eq q
    subst ex
    exact ht.then A.Z A.N e1 fun H1 ι1 Z1 X1 N1 => hg B σ H1 ι1 ρ S1 out (A.ext X1 Z1) e E D hD
  · cases e
def yCallE (run : RuY) (fs : List Ev.E) : Env → Store → Option (Nat × Option Int × Store) := fun ρ S => bnd (eArgs fs ρ S) fun rs S1 => run rs S1
theorem simEY_call {t : TA} {fs : List Ev.E} {run : RuY} {m : Nat} (ha : SimA W t fs) (hm : fs.length = m) : SimEY W xa (fun E => tCall (spY W xa m run) [] E t) (yCallE run fs) := by
  intro σ H ι ρ S H0 c d S' Z N e E Q hE
  obtain ⟨rs, S1, e1, e⟩ := zat e
  refine ha σ H ι ρ S H0 rs S1 Z N e1 _ fun vs H1 ι1 Z1 X1 R1 => ?_
  rw [List.append_nil]
  exact ⟨by rw [← R1.length, eArgs_len e1]; exact hm, ι1, S1, H, rs, c, d, S', Z1, R1, e, hE.on Z X1 Z1⟩
def yExpr (f : Env → Store → Option (Nat × Option Int × Store)) : Sy := fun ρ S => (f ρ S).map fun r => .x r.1 r.2.1 r.2.2
theorem simY_expr {t : XK → TE} {f : Env → Store → Option (Nat × Option Int × Store)} (h : SimEY W xa t f) : SimY W xa (fun E => tDrop (t E)) (yExpr f) := by
  intro B σ H ι ρ S out A e E D hD
  unfold yExpr at e
  cases q : f ρ S with
  | none => rw [q] at e; cases e
  | some r =>
    rw [q] at e
    cases e
    exact h σ H ι ρ S B.H0 r.1 r.2.1 r.2.2 A.Z A.N q E _ (PXr.at hD A)
def yFst (f : Sy) : Sy := fun ρ S => match f ρ S with
  | some (.x c d S') => some (.x c d S')
  | _ => none
theorem simY_fst {t : XK → TS} {u : TS} {f : Sy} (hf : SimY W xa t f) : SimY W xa (fun E => tSeq (t E) u) (yFst f) := by
  intro B σ H ι ρ S out A e E D hD
  unfold yFst at e
  split at e
  · rename_i c d S' q
    cases e
    exact hf B σ H ι ρ S _ A q E _ hD
  · cases e
def spNum (K : PySem.W.Frag) (f : Str) : Sp := fun vs H Q _ => ∃ (a C : Addr) (i : Int), vs = [.ref a, .int i] ∧ OexC K C ∧ PySem.W.findIn K (.ref C) f = some none ∧ H a = some (exo a C none) ∧
  ∀ dx, H dx = none → dx ≠ a → Q .non (upd (upd H dx (exd dx [(f, .int i)])) a (exo a C (some dx)))
def yRaise (c j : Nat) : Sy := fun ρ S => match ρ[j]? with
  | some (.v (.int i)) => some (.x c (some i) S)
  | _ => none
theorem upd_exo {H : Hp} {a dx : Addr} {o o1 o2 u : HO} (ha : H a = none) (hd : H dx = none) (ne : dx ≠ a) : upd (del (upd (upd (upd H a o) dx o1) a o2) a) dx u = upd H dx u := by
  funext b
  by_cases h1 : b = dx
  · rw [h1, upd_same, upd_same]
  · rw [upd_ne h1, upd_ne h1]
    by_cases h2 : b = a
    · rw [h2, del_same, ha]
    · rw [del_ne h2, upd_ne h2, upd_ne h1, upd_ne h2]
theorem simY_raise {c j : Nat} (T : OexC W.K (xa c)) (hno : PySem.W.findIn W.K (.ref (xa c)) (fieldOf c) = some none) : SimY W xa (fun E _ σ H => tMkO (xa c) (spNum W.K (fieldOf c)) [] (tCons (tVar j) tNil) σ H fun cls d H' => E cls d H') (yRaise c j) := by
  intro B σ H ι ρ S out A e E D hD
  unfold yRaise at e
  split at e
  · rename_i i q
    cases e
    have hj : j < σ.length := by
      have z := (List.getElem?_eq_some_iff.mp q).1
      rw [A.N.len] at z
      exact z
    obtain ⟨v, ev, rv⟩ := A.N.at_ j _ σ[j] q (by simp [hj])
    cases rv
    have hs : σ[j]? = some (some (.int i)) := by simp [hj, ev]
    refine ⟨.int i, hs, by simp, fun a ha => ⟨a, xa c, i, rfl, T, hno, upd_same, fun dx hdx ne => ?_⟩⟩
    rw [upd_ne ne] at hdx
    refine ⟨rfl, dx, [(fieldOf c, .int i)], upd_same, ?_, hdx, ?_⟩
    · rw [upd_ne ne, upd_same]
    · rw [upd_exo ha hdx ne]
      have Z2 := A.Z.upd (o := .xd [(fieldOf c, .int i)]) hdx
      exact hD _ ι dx Z2 (A.X.trans (Ext.upd hdx) A.Z) upd_same (A.Z.ne_new hdx)
  · cases e
def loopY (tg : Tg) (body : Sy) (src : Src) : List D → Env → Store → Option OutX
  | [], ρ, S => if src.alive S then some (.o (.next ρ S)) else none
  | d :: r, ρ, S => if src.alive S then (match tg d ρ with
    | some ρ1 => (match body ρ1 S with
      | some (.o (.next ρ2 S2)) => loopY tg body src r ρ2 S2
      | some (.o (.cont ρ2 S2)) => loopY tg body src r ρ2 S2
      | some (.o (.brk ρ2 S2)) => some (.o (.next ρ2 S2))
      | some (.o (.ret x S2)) => some (.o (.ret x S2))
      | some (.x c d S2) => some (.x c d S2)
      | none => none)
    | none => none) else none
theorem loopY_alive {tg : Tg} {body : Sy} {src : Src} {its : List D} {ρ : Env} {r : OutX} (h : loopY tg body src its ρ S = some r) : src.alive S = true := by
  cases its with
  | nil =>
    unfold loopY at h
    split at h
    · assumption
    · cases h
  | cons d t =>
    unfold loopY at h
    split at h
    · assumption
    · cases h
def yFor (fi : Fi) (tg : Tg) (body : Sy) : Sy := fun ρ S => bnd (fi ρ S) fun p S1 => if p.2.2 then loopY tg body p.2.1 p.1 ρ S1 else none
theorem simY_for {wi : TI} {fi : Fi} {g : TG} {tg : Tg} {js : List Nat} {tb : XK → TS} {body : Sy} (hi : SimI W wi fi) (hg : TgOk W g tg js) (hb : SimY W xa tb body) : SimY W xa (fun E => tFor wi g (tb E)) (yFor fi tg body) := by
  intro B σ H ι ρ S out A e E D hD
  obtain ⟨⟨its, src, ok⟩, S1, e1, e⟩ := zat e
  simp only at e
  by_cases hok : ok = true
  · rw [if_pos hok] at e
    refine hi σ H ι ρ S B.H0 its src ok S1 A.Z A.N e1 _ fun J H1 ι1 P Z1 X1 hP hno wk => ?_
    have A1 := A.ext X1 Z1
    let PB : Hp := fun a => match P a with
      | some o => some o
      | none => B.P a
    have hPB : ∀ a o, PB a = some o → P a = some o ∨ B.P a = some o := fun a o q => by
      show P a = some o ∨ B.P a = some o
      cases qa : P a with
      | some u =>
        have q' : (match P a with | some o => some o | none => B.P a) = some o := q
        rw [qa] at q'
        exact .inl q'
      | none =>
        have q' : (match P a with | some o => some o | none => B.P a) = some o := q
        rw [qa] at q'
        exact .inr q'
    have hPB2 : ∀ a o, P a = some o → PB a = some o := fun a o q => by
      show (match P a with | some o => some o | none => B.P a) = some o
      rw [q]
    have hPB3 : ∀ a o, B.P a = some o → PB a = some o := fun a o q => by
      show (match P a with | some o => some o | none => B.P a) = some o
      cases qa : P a with
      | none => exact q
      | some u =>
        have h1 := (hP a u qa).1
        have h2 := (A1.kp a o q).1
        rw [h1] at h2
        exact h2
    let B2 : Bas := { B with ιw := ι1, nw := S1.length, P := PB }
    have A2 : At W B2 ι1 ρ S1 σ H1 := ⟨A1.Z, A1.X, A1.N, Nat.le_refl _, fun _ _ => rfl, fun a o q => (hPB a o q).elim (hP a o) (A1.kp a o), fun a o i s q ei ho => (hPB a o q).elim (fun z => hno hok a o i s z ei ho) fun z => A1.no a o i s z ei ho⟩
    have back : ∀ {ι' : Nat → Addr} {ρ' : Env} {S' : Store} {σ' : L2.St} {H' : Hp}, At W B2 ι' ρ' S' σ' H' → At W B ι' ρ' S' σ' H' := fun A' => ⟨A'.Z, A'.X, A'.N, Nat.le_trans A1.le A'.le, fun h hh => (A'.sm h (Nat.lt_of_lt_of_le hh A1.le)).trans (A1.sm h hh), fun a o q => A'.kp a o (hPB3 a o q), fun a o i s q => A'.no a o i s (hPB3 a o q)⟩
    refine ⟨fun i m σh Hh => m = its.length - i ∧ i ≤ its.length ∧ ∃ (ι' : Nat → Addr) (ρh : Env) (Sh : Store), At W B2 ι' ρh Sh σh Hh ∧ loopY tg body src (its.drop i) ρh Sh = some out,
      ⟨its.length, by simp, Nat.zero_le _, ι1, ρ, S1, A2, by simpa using e⟩, ?_⟩
    rintro i m σh Hh ⟨rfl, hil, ι', ρh, Sh, Ah, el⟩
    have al := loopY_alive el
    have kpP : ∀ a o, P a = some o → Hh a = some o := fun a o q => (Ah.kp a o (hPB2 a o q)).1
    by_cases hlt : i < its.length
    · refine .inr ?_
      obtain ⟨d, hd⟩ : ∃ d, its[i]? = some d := ⟨its[i], by simp [hlt]⟩
      obtain ⟨go, yl⟩ := wk.go i d ι' Sh Hh Ah.Z Ah.le Ah.sm kpP al hd
      have hdrop : its.drop i = d :: its.drop (i + 1) := by
        rw [List.drop_eq_getElem_cons hlt, (List.getElem?_eq_some_iff.mp hd).2]
      rw [hdrop] at el
      unfold loopY at el
      rw [if_pos al] at el
      split at el
      · rename_i ρ1 eg
        refine ⟨go, fun σ2 H2 => ∃ (ι' : Nat → Addr) (ρh : Env) (Sh : Store), At W B2 ι' ρh Sh σ2 H2 ∧ loopY tg body src (its.drop (i + 1)) ρh Sh = some out,
          fun σ2 H2 q => ⟨its.length - (i + 1), by omega, rfl, hlt, q⟩, fun x H2 y => ?_⟩
        obtain ⟨Zx, Xx, rx⟩ := yl x H2 y
        have Ax := Ah.ext Xx Zx
        refine simG_at hg.sim hg.own (fun j w hj => wipe_eq j w hj) Ax rx eg fun σ2 A3 => ?_
        cases qb : body ρ1 Sh with
        | none => rw [qb] at el; cases el
        | some o =>
          rw [qb] at el
          refine hb B2 σ2 H2 ι' ρ1 Sh o A3 qb E _ ?_
          rcases o with o | ⟨c, d, S2⟩
          rotate_left
          · cases el; exact hD
          cases o with
          | next ρ2 S2 => exact fun σ' H' ι2 A' => ⟨ι2, ρ2, S2, A', el⟩
          | cont ρ2 S2 => exact fun σ' H' ι2 A' => ⟨ι2, ρ2, S2, A', el⟩
          | brk ρ2 S2 => cases el; exact fun σ' H' ι2 A' => hD σ' H' ι2 (back A')
          | ret z S2 => cases el; exact hD
      · cases el
    · refine .inl ?_
      have ei : i = its.length := by omega
      subst ei
      rw [List.drop_length] at el
      unfold loopY at el
      rw [if_pos al] at el
      cases el
      exact ⟨wk.stop _ ι' Sh Hh Ah.Z Ah.le Ah.sm kpP al (Nat.le_refl _), hD σh Hh ι' (back Ah)⟩
  · rw [if_neg hok] at e; cases e
end
end Ev
namespace Ev
open PySem PySem.Spec PyProof.Rows L2 LamX NdefX
section
variable {X : Cx} {e : Expr} {es : List Expr} {ta : TA} {p p1 p2 pos : Pos}
theorem pmk_oexN {CX : CXT} {x : Str} {C fI : Addr} {k : Nat} {fd : FuncData} {ps : List Str} {sp : Sp} (T : OexC X.K C) (iC : PySem.W.findIn X.K (.ref C) "__init__" = some (some (.ref fI))) (tI : PySem.W.typeIn X.K (.ref fI) = some (.type "function"))
    (F1 : FnOk X.prog X.w X.K X.mg X.base CX k fI fd ps sp) (hr : Room (k + 1) X.A) (hb : Binds X.K fd ps []) (hx : Passes CX X (fun _ _ _ => False)) (hg : Gl X x) (hm : X.mg x = some (.ref C)) (ha : PA X (e :: es) ta)
    (hdb : (x == ("__debug__" : Str)) = false := by decide) (he : starEach (e :: es) X.env = (false, eval e X.env) :: starEach es X.env := by rfl) (hpl : (backTo pos (starEach es X.env)).any (·.1) = false := by rfl) :
    L2N.PMk X (.Call (.Name x p) (e :: es) [] pos) (tMkO C sp [] ta) := by
  intro pins s σ H Q I h
  obtain ⟨nm, q, N, bs, bm, sn, sub, ab, col, dd, k0, k1, k2, k3, k5, hC, hbm⟩ := T.cls
  refine wpAny_Call_Name_kw (ld_glob I hg hm ?_ hdb)
  refine PySem.W.callWith_K (h₀ := X.base) I.ok.mod.kin T.kC (thn (ha.run pos pins s σ H _ I h) fun us s1 ⟨vs, H1, I1, r1, hz, q1⟩ => ⟨I1.kIn, ?_⟩) he hpl
  show wpAny _ _ (call (.ref C) us) _ _ _
  obtain ⟨hp, g, dr, tk, os⟩ := s1
  have hsz : hp.objs.size ≤ hp.objs.size + 1 := Nat.le_succ _
  have hn : H1 (hp.objs.size + 1) = none := I1.hok.fresh hsz
  have hq := q1 (hp.objs.size + 1) hn
  rw [List.append_nil] at hq
  have kk : ∀ b o, hp.get? b = some o → ((hp.push (PySem.W.kdv_tup us)).push (PySem.HandSPX.excO C hp.objs.size)).get? b = some o := fun b o e => Heap.get?_push_of_some _ (Heap.get?_push_of_some _ e)
  have hget : ((hp.push (PySem.W.kdv_tup us)).push (PySem.HandSPX.excO C hp.objs.size)).get? (hp.objs.size + 1) = some (PySem.HandSPX.excO C hp.objs.size) := by heap_get
  have I2 : Inv X pins σ (upd H1 (hp.objs.size + 1) (exo (hp.objs.size + 1) C none)) ⟨(hp.push (PySem.W.kdv_tup us)).push (PySem.HandSPX.excO C hp.objs.size), g, dr, tk, os⟩ :=
    I1.laid (t' := tk) (a := hp.objs.size + 1) (o := exo (hp.objs.size + 1) C none) (h' := (hp.push (PySem.W.kdv_tup us)).push (PySem.HandSPX.excO C hp.objs.size)) kk hsz (exo_ok hget)
  have r2 : Vals (V.ref (hp.objs.size + 1) :: vs) (Value.ref (hp.objs.size + 1) :: us) := .cons rfl r1
  have hl : (Value.ref (hp.objs.size + 1) :: us ++ []).length = ps.length := by
    have e := r2.length
    rw [F1.len _ _ _ _ hq] at e
    rw [List.append_nil]
    exact e.symm
  have hus : us.length ≤ sizeLine := by
    rw [← Paired.length r1, sizeLine_eq]
    omega
  have b2 := hb _ (Value.ref (hp.objs.size + 1) :: us) I2.kIn hl
  rw [List.append_nil] at b2
  refine wpAny_call (PySem.HandSPX.call_own F.excBase_ValueError (fun Y => PySem.HandSPX.refsVE_contains Y bm hbm) (I1.kIn _ _ hC) (PySem.W.looks_findIn I1.kIn iC) (fun self => PySem.W.bind_fn I1.kIn self tI) hus
    (codeAny_mono (F1.run _ X.stack _ _ ⟨Value.ref (hp.objs.size + 1) :: us, []⟩ (Value.ref (hp.objs.size + 1) :: us) _ _ (fun _ _ _ => False) (hr.make C us []) (I2.env0.make C us []) b2 r2 hq) fun r s' hq' => ?_))
  cases r with
  | error er => exact hx pins σ _ _ er s' I2 hq'
  | ok fl =>
    cases fl with
    | ret u =>
      obtain ⟨v, H2, os2, bare2, un2, hok2, rv, ev, d, fs, ea, ed, hd1, q2⟩ := hq'
      subst ev
      obtain ⟨h2, g2, d2, t2, os'⟩ := s'
      obtain ⟨t0, G, J, kG, ge, hoe, na⟩ := mk_end0 (d2 := d2) (t2 := t2) I1 hsz kk un2 hok2 os2 bare2 ea ed hd1
      exact ⟨rv, hp.objs.size + 1, _, _, ⟨G, g2, d2, t2, os'⟩, _, .ref C, some d, rfl, J, kG, ge, hoe, ⟨rfl, rfl, fun vs hv => by cases hv; rfl⟩, rfl, rfl, na, rfl, bare2, raises_own T.exC T.tyC, q2⟩
    | next => exact False.elim hq'
    | brk => exact False.elim hq'
    | cont => exact False.elim hq'
theorem pe_leinit {pl : Sem Bool} {x : Str} {L : Addr} (hg : Gl X x) (hm : X.mg x = some (.ref L)) (rd : PySem.W.readsIn X.K L (.type "type") = true) (ga : PySem.W.specialIn X.K (.ref L) "__getattribute__" = some (some (.builtin "type.__getattribute__")))
    (vV : PySem.W.findCls X.K (.ref L) (.type "type") "__init__" = some (.val (.builtin "ValueError.__init__"))) (ha : PA X (e :: es) ta)
    (hc : eval (.Call (.Attribute (.Name x p1) "__init__" p2) (e :: es) [] pos) X.env = (do
      let ov ← eval (.Name x p1) X.env
      standAt p2.atName
      let (f, first) ← holding [ov] (getMethod ov "__init__" pl)
      callWith pos f first (backTo pos (starEach (e :: es) X.env)) (backToKw pos (keywordEach [] X.env))) := by rfl)
    (he : starEach (e :: es) X.env = (false, eval e X.env) :: starEach es X.env := by rfl) (hpl : (backTo pos (starEach es X.env)).any (·.1) = false := by rfl) (hdb : (x == ("__debug__" : Str)) = false := by decide) :
    PE X (.Call (.Attribute (.Name x p1) "__init__" p2) (e :: es) [] pos) (tVeI X.K ta) := by
  refine ⟨fun pins s σ H Q I h => ?_⟩
  refine PySem.W.methodCall_KW (ld_glob I hg hm ?_ hdb) hc
  refine PySem.W.method_cls I.kIn ga (PySem.W.cls_value I.kIn rd vV (by decide +kernel) ?_)
  show wpAny _ _ (callWith pos (Value.builtin "ValueError.__init__") [] (backTo pos (starEach (e :: es) X.env)) []) _ _ _
  refine PyProof.Rows.callWith_method1 (thn (ha.run pos pins _ σ H _ (I.tok _) h) fun us s1 ⟨vs, H1, I1, r1, a, C, ws, ev, hl, T, ea, q⟩ => ?_) he hpl
  subst ev
  cases r1 with
  | @cons _ u0 _ ur ra rw' =>
    obtain rfl : u0 = Value.ref a := ra
    have hlen : ur.length ≤ sizeLine := by
      rw [← Paired.length rw', sizeLine_eq]
      omega
    exact oinit_ok T I1 ea hlen fun s' J => ⟨.non, H1, J, rfl, q⟩
end
section
variable {P : Program} {w : World} {K : PySem.W.Frag} {mg : Str → Option Value} {base : Heap}
structure LeC (K : PySem.W.Frag) (mg : Str → Option Value) (L : Addr) : Prop where
  gl : mg "LentError" = some (.ref L)
  rd : PySem.W.readsIn K L (.type "type") = true
  ga : PySem.W.specialIn K (.ref L) "__getattribute__" = some (some (.builtin "type.__getattribute__"))
  vV : PySem.W.findCls K (.ref L) (.type "type") "__init__" = some (.val (.builtin "ValueError.__init__"))
theorem initN_ok {x qual : Str} {st : Stmt} {f : Addr} {fd : FuncData} {n fl : Str} (F : FnP K x qual st [] f fd) (sc : FnScope ["self", n] ["self", n] (defScope st))
    (hb : ∀ (cdv : Value) (A : Around) (outer : List PySem.Env) (s : Shared) (H : Hp) (E : XK), PSs (cxOf CX0 P w K mg base ["self", n] qual (defScope st) f cdv A outer s H E) (defBody st) (tSeq (tDrop (tVeI K (tCons (tVar 0) (tCons (tVar 1) tNil)))) (tOst K fl (tVar 0) (tVar 1)))) :
    FnOk P w K mg base CX0 1 f fd ["self", n] (spNum K fl) := by
  refine F.ok sc (fun vs H Q E ⟨a, C, i, e, _⟩ => by rw [e]; rfl) fun cdv A outer s H vs Q E hr h => ?_
  obtain ⟨a, C, i, rfl, T, hno, ea, hQ⟩ := h
  refine ⟨tSeq (tDrop (tVeI K (tCons (tVar 0) (tCons (tVar 1) tNil)))) (tOst K fl (tVar 0) (tVar 1)), hb cdv A outer s H E, ?_⟩
  refine ⟨.ref a, rfl, .int i, rfl, a, C, [.int i], rfl, by simp, T, ea, ?_⟩
  exact ⟨.int i, rfl, .ref a, rfl, a, C, rfl, T, hno, .inl ⟨ea, fun dx h1 h2 => hQ dx h1 h2⟩⟩
structure NumX (P : Program) (w : World) (K : PySem.W.Frag) (mg : Str → Option Value) (base : Heap) (xa : Nat → Addr) (c : Nat) (x n : Str) : Prop where
  oex : OexC K (xa c)
  gl : mg x = some (.ref (xa c))
  no : PySem.W.findIn K (.ref (xa c)) (fieldOf c) = some none
  ex : ∃ (fI : Addr) (fd : FuncData), PySem.W.findIn K (.ref (xa c)) "__init__" = some (some (.ref fI)) ∧ PySem.W.typeIn K (.ref fI) = some (.type "function") ∧ FnOk P w K mg base CX0 1 fI fd ["self", n] (spNum K (fieldOf c)) ∧ Binds K fd ["self", n] []
theorem ps_raiseN {X : Cx} {E : XK} {xa : Nat → Addr} {c : Nat} {x n : Str} {e : Expr} {te : TE} {p pos pos' : Pos} (T : NumX X.prog X.w X.K X.mg X.base xa c x n) (hr : Room 2 X.A) (tk : TkE X E) (calm : X.calm = true) (hg : Gl X x) (he : PE X e te)
    (hdb : (x == ("__debug__" : Str)) = false := by decide) (hs : starEach [e] X.env = (false, eval e X.env) :: starEach [] X.env := by rfl) :
    PS X (.Raise (some (.Call (.Name x p) [e] [] pos)) none pos') (fun _ σ H => tMkO (xa c) (spNum X.K (fieldOf c)) [] (tCons te tNil) σ H fun cls d H' => E cls d H') := by
  obtain ⟨fI, fd, h1, h2, h3, h4⟩ := T.ex
  exact L2N.ps_raise calm tk (pmk_oexN T.oex h1 h2 h3 hr h4 L2.pass0 hg T.gl (pa_cons he pa_nil (hs := hs)) hdb hs rfl)
def oexB (K : PySem.W.Frag) (C : Addr) : Bool := (match K.lookup C with
  | some ⟨.type "type", _, .cls cd, sl⟩ => (match cd.mro, sl.toList with
    | .ref C' :: bm, [_, _, _, _, some (.builtin n), _] => C' == C && (n == "ValueError.__new__" && (!cd.hasDel && (cd.hasDict && PySem.HandSPX.refsVE bm)))
    | _, _ => false)
  | _ => false) && (decide (PySem.W.findIn K (.ref C) "__setattr__" = some (some (.builtin "object.__setattr__"))) && (decide (PySem.W.subIn K (.ref C) (.type "BaseException") = some true) && (decide (PySem.W.typeIn K (.ref C) = some (.type "type")) && PySem.W.keepIn K (.ref C))))
theorem oexB_ok {C : Addr} (h : oexB K C = true) : OexC K C := by
  unfold oexB at h
  simp only [Bool.and_eq_true, decide_eq_true_eq] at h
  obtain ⟨q, h1, h2, h3, h4⟩ := h
  refine ⟨?_, h1, h2, h3, h4⟩
  split at q
  · rename_i dd cd sl ho
    split at q
    · rename_i C' bm k0 k1 k2 k3 n k5 hm hs
      simp only [Bool.and_eq_true, beq_iff_eq, Bool.not_eq_true'] at q
      obtain ⟨rfl, rfl, hdel, hdict, ht⟩ := q
      obtain ⟨nm, bs, mro, ns, qn, hd, sn, sub, ab, col, del⟩ := cd
      dsimp only at hm hdel hdict
      subst hm hdel hdict
      have hsl : sl = #[k0, k1, k2, k3, some (.builtin "ValueError.__new__"), k5] := by
        obtain ⟨l⟩ := sl
        simp only at hs
        rw [hs]
      subst hsl
      exact ⟨nm, qn, ns, bs, bm, sn, sub, ab, col, dd, k0, k1, k2, k3, k5, ho, ht⟩
    · cases q
  · cases q
def leB (K : PySem.W.Frag) (L : Addr) : Bool := PySem.W.readsIn K L (.type "type") && (decide (PySem.W.specialIn K (.ref L) "__getattribute__" = some (some (.builtin "type.__getattribute__"))) && (match PySem.W.findCls K (.ref L) (.type "type") "__init__" with
  | some (.val (.builtin "ValueError.__init__")) => true
  | _ => false))
theorem leB_ok {L : Addr} (g : mg "LentError" = some (.ref L)) (h : leB K L = true) : LeC K mg L := by
  unfold leB at h
  simp only [Bool.and_eq_true, decide_eq_true_eq] at h
  refine ⟨g, h.1, h.2.1, ?_⟩
  have q := h.2.2
  split at q
  · rename_i e
    exact e
  · cases q
def numB (K : PySem.W.Frag) (C fI : Addr) (f : Str) : Bool := oexB K C && (decide (PySem.W.findIn K (.ref C) f = some none) && decide (PySem.W.typeIn K (.ref fI) = some (.type "function")))
theorem numB_ok {C fI : Addr} {f : Str} (h : numB K C fI f = true) : OexC K C ∧ PySem.W.findIn K (.ref C) f = some none ∧ PySem.W.typeIn K (.ref fI) = some (.type "function") := by
  unfold numB at h
  simp only [Bool.and_eq_true, decide_eq_true_eq] at h
  exact ⟨oexB_ok h.1, h.2.1, h.2.2⟩
theorem fnY_ok {W : Wd} {xa : Nat → Addr} {x qual : Str} {st : Stmt} {dvs : List V} {f : Addr} {fd : FuncData} {N ps : List Str} {k : Nat} {ev : Sy} (F : FnP K x qual st dvs f fd) (sc : FnScope N ps (defScope st))
    (hb : ∀ (cdv : Value) (A : Around) (outer : List PySem.Env) (s : Shared) (H : Hp) (E : XK), Room k (A.deeper (envOfC qual (defScope st) s.heap.objs.size f cdv)) →
      ∃ t, PSs (cxOf (L2N.CX P w) P w K mg base N qual (defScope st) f cdv A outer s H E) (defBody st) (t E) ∧ SimY W xa t ev) :
    FnOk P w K mg base (L2N.CX P w) (k + 1) f fd ps (spY W xa ps.length (runY N.length ev)) := by
  refine F.ok sc (fun vs H Q E h => h.1) fun cdv A outer s H vs Q E hr h => ?_
  obtain ⟨t, h1, h2⟩ := hb cdv A outer s H E hr
  refine ⟨t E, h1, ?_⟩
  obtain ⟨hl, ι, S, Ha, rs, c, d, S', Z, hrs, hrun, hE⟩ := h
  unfold runY at hrun
  cases q : slotsIn rs with
  | none => rw [q] at hrun; cases hrun
  | some ss =>
    rw [q] at hrun
    simp only [Option.bind_some] at hrun
    split at hrun
    · have hs := slotsIn_ok (H0 := H) q hrs
      have N0 := entry_env (m := N.length) hs
      let B : Bas := ⟨ι, S, H, ι, 0, fun _ => none⟩
      have A0 : At W B ι (ss ++ List.replicate (N.length - ss.length) .no) S (start N vs) H :=
        ⟨Z, .refl, N0, Nat.zero_le _, fun h hh => absurd hh (Nat.not_lt_zero _), (fun a o q => by cases q), (fun a o i s q => by cases q)⟩
      split at hrun
      · rename_i c' d' S2 q2
        cases hrun
        exact h2 B (start N vs) H ι _ S _ A0 q2 E _ hE
      · cases hrun
    · cases hrun
def tlOfY (W : Wd) (xa : Nat → Addr) (ρ : Env) (σ : L2.St) (S S' : Store) (c : Nat) (d : Option Int) : XK → Hp → Prop := fun E H => ∃ ι, RSt W ι H S ∧ REnv W H ι S.length H ρ σ ∧ PXr W xa ι S.length H E c d S'
theorem tlOfY_mono {W : Wd} {xa : Nat → Addr} {ρ : Env} {σ : L2.St} {S S' : Store} {c : Nat} {d : Option Int} {E E' : XK} {H : Hp} (h : ∀ cls d H', E cls d H' → E' cls d H') : tlOfY W xa ρ σ S S' c d E H → tlOfY W xa ρ σ S S' c d E' H := fun ⟨ι, Z, N, q⟩ => ⟨ι, Z, N, by
  cases d with
  | none => exact fun H' ι' Z' X' => h _ _ _ (q H' ι' Z' X')
  | some i => exact fun H' ι' dd Z' X' e a => h _ _ _ (q H' ι' dd Z' X' e a)⟩
theorem lmY_0 {W : Wd} {xa : Nat → Addr} {k : Nat} {F : Lm} {N fr : List Str} {ws : List (Option V)} {t : XK → TE} {g : Env → Store → Option (Nat × Option Int × Store)} {ρ : Env} {S S' : Store} {c : Nat} {d : Option Int} (sc : NScope N [] fr F.scope) (hb : ∀ doc pm ctv, bindArgs (F.fd doc pm ctv) ⟨[], []⟩ = pure [])
    (body : ∀ f A outer s H E, Room k (A.deeper (envF F.nf f s.heap.objs.size)) → PE (ncx (L2N.CX P w) P w K mg base N F.nf f A outer s H E) F.body (t E)) (sim : SimEY W xa t g) (e : g ρ S = some (c, d, S')) : LmX P w K mg base k F fr ws (tlOfY W xa ρ (startF N [] ws) S S' c d) := by
  intro f A outer s H Q E room e0 at_ C ⟨ι, Z, N0, q⟩
  exact lam_run (us := []) sc (fun doc pm ctv => BindsTo.of_eq (hb doc pm ctv)) .nil rfl room e0 at_.fn at_.code C fun r => ⟨t E, body f A outer s H E r, sim _ H ι ρ S H c d S' Z N0 e E Q q⟩
theorem lmY_1 {W : Wd} {xa : Nat → Addr} {k : Nat} {F : Lm} {N fr : List Str} {p : Str} {ws : List (Option V)} {t : XK → TE} {g : Env → Store → Option (Nat × Option Int × Store)} {ρ : Env} {S S' : Store} {c : Nat} {d : Option Int} (sc : NScope N [p] fr F.scope) (hd : F.dv ≠ .none)
    (hb : ∀ doc pm ctv, ∃ k, bindArgs (F.fd doc pm ctv) ⟨[], []⟩ = seqItems? F.dv >>= k ∧ ∀ u, k (some #[u]) = pure [(p, u)])
    (body : ∀ f A outer s H E, Room k (A.deeper (envF F.nf f s.heap.objs.size)) → PE (ncx (L2N.CX P w) P w K mg base N F.nf f A outer s H E) F.body (t E)) (sim : SimEY W xa t g) (e : g ρ S = some (c, d, S')) : LmX P w K mg base k F fr ws (tlOfY W xa ρ (startF N [.int 0] ws) S S' c d) := by
  intro f A outer s H Q E room e0 at_ C ⟨ι, Z, N0, q⟩
  rcases at_.dv with z | ⟨T, eT, hT⟩
  · exact absurd z hd
  · obtain ⟨_, its, rv, oT, gT, _, nT, dT⟩ := e0.hok T _ hT
    cases rv with
    | cons r1 r2 =>
      rename_i u us
      cases r2
      refine lam_run (us := [u]) sc (fun doc pm ctv => ?_) (.cons r1 .nil) rfl room e0 at_.fn at_.code C fun r => ⟨t E, body f A outer s H E r, sim _ H ι ρ S H c d S' Z N0 e E Q q⟩
      obtain ⟨k', b1, b2⟩ := hb doc pm ctv
      exact BindsTo.of_defaults (T := T) eT gT dT b1 (b2 u)
end
end Ev
namespace Ev
open PySem PySem.Spec PyProof.Rows L2 LamX NdefX
def Good2 (xa : Nat → Addr) (word : Str) (i : Int) (Q : VK) : XK := fun cls d H' => ∃ c, c < 7 ∧ cls = .ref (xa c) ∧ wordOf c = word ∧ (c < 5 → d = none) ∧ (5 ≤ c → ∃ dd, d = some dd ∧ H' dd = some (.xd [(fieldOf c, .int i)])) ∧ ∀ H'', (∀ b o, H' b = some o → H'' b = some o) → Q (.bl true) H''
def RefOk2 (P : Program) (w : World) (K : PySem.W.Frag) (mg : Str → Option Value) (base : Heap) (xa : Nat → Addr) (k : Nat) (g : Addr) : Prop :=
  ∀ (A : Around) (outer : List PySem.Env) (s : Shared) (H : Hp) (f : Addr) (F : Lm) (fr : List Str) (ws : List (Option V)) (tl : XK → Hp → Prop) (word : Str) (i : Int) (Q : VK) (tw tv : Tok), Room (k + 2) A → Env0 P w K mg base A outer s H → CellsAt F.cl fr ws s.heap H → (∀ y c, F.cl.lookup y = some c → c ∉ frs outer) →
    LmAt H f F → LmX P w K mg base k F fr ws tl → (∀ E E' H, (∀ cls d H', E cls d H' → E' cls d H') → tl E H → tl E' H) → tl (Good2 xa word i Q) H → codeAny (model P w) A (.call (.ref g) ⟨[.ref f, .str word tw, .int i tv], []⟩) (CR CX0 outer P w H s Q L2.E0) s
theorem roomH_mk {k : Nat} {A : Around} (r : Room k A) (h : Option Value) : L2H.RoomH k (A.mark h) := ⟨r.dp, r.un⟩
def spAl : Sp := fun vs H Q _ => ∃ i : Int, vs = [.int i, .int i] ∧ ∀ H', (∀ b o, H b = some o → H' b = some o) → Q (.bl true) H'
abbrev tAl (K : PySem.W.Frag) : TS := tSeq (tIfS (tB (tIsN (tVar 1))) tNever tNext) (tSeq (tIfS (tB (tCB (rIsi K) (tCons (tVar 1) (tCons (tC (.ty "bool")) tNil)))) tNever tNext)
  (tSeq (tIfS (tB (tCB (rIsi K) (tCons (tVar 1) (tCons (tC (.ty "int")) tNil)))) (tRet (tAndV (tCB (rIsi K) (tCons (tVar 0) (tCons (tC (.ty "int")) tNil))) (tAndV (tNotV (tCB (rIsi K) (tCons (tVar 0) (tCons (tC (.ty "bool")) tNil)))) (tOp (rEqD K) (tVar 0) (tVar 1))))) tNext) tNever))
abbrev sAl : Sx := sSeq (sIf (eUn gIsN (eVar 1)) sFail sNil) (sSeq (sIf (eIsi .bool (eVar 1)) sFail sNil) (sSeq (sIf (eIsi .int (eVar 1)) (sRet (eAnd (eIsi .int (eVar 0)) (eAnd (eUn gNot (eIsi .bool (eVar 0))) (eBin gEq (eVar 0) (eVar 1))))) sNil) sFail))
theorem al_run {i : Int} : sAl [.v (.int i), .v (.int i), .no] [] = some (.ret (.v (.bl true)) []) := by
  unfold sAl
  simp -implicitDefEqProofs [isTy]
theorem al_sem {P : Program} {w : World} {K : PySem.W.Frag} {i : Int} {D : Ends} {σ : L2.St} {H : Hp} (hl : σ.length = 3) (h0 : σ[0]? = some (some (.int i))) (h1 : σ[1]? = some (some (.int i))) (hQ : ∀ H', (∀ b o, H b = some o → H' b = some o) → D.rt (.bl true) H') : tAl K D σ H := by
  let W : Wd := ⟨P, w, K, fun _ => 0, []⟩
  let ι : Nat → Addr := fun _ => 0
  let B : Bas := ⟨ι, [], H, ι, 0, fun _ => none⟩
  have Z0 : RSt W ι H [] := ⟨fun h o e => by simp at e, fun i j hi => absurd hi (Nat.not_lt_zero _)⟩
  have N0 : REnv W H ι 0 H [.v (.int i), .v (.int i), .no] σ := by
    have key : ∀ (j : Nat) s, ([.v (.int i), .v (.int i), .no] : Env)[j]? = some s → s.own = false ∧ ∀ o, σ[j]? = some o → SlOk W H ι 0 H o s := fun j s e => by
      match j, e with
      | 0, e => cases e; exact ⟨rfl, fun o eo => by rw [h0] at eo; cases eo; exact ⟨_, rfl, .int _⟩⟩
      | 1, e => cases e; exact ⟨rfl, fun o eo => by rw [h1] at eo; cases eo; exact ⟨_, rfl, .int _⟩⟩
      | 2, e => cases e; exact ⟨rfl, fun _ _ => trivial⟩
      | n + 3, e => simp at e
    exact ⟨by rw [hl]; rfl, fun i s o e1 e2 => (key i s e1).2 o e2, fun i j s t b _ e1 _ ho => by rw [(key i s e1).1] at ho; cases ho⟩
  have A0 : At W B ι [.v (.int i), .v (.int i), .no] [] σ H := ⟨Z0, .refl, N0, Nat.zero_le _, fun h hh => absurd hh (Nat.not_lt_zero _), (fun a o q => by cases q), (fun a o i s q => by cases q)⟩
  have sm : SimS W (tAl K) sAl := zaf (zau (zav (sim_isN zab)) simS_fail zap) (zaf (zau (zav (zaM (t := .bool) zab)) simS_fail zap)
    (zaf (zau (zav (zaM (t := .int) zab)) (zao (zby (zaM (t := .int) zab) (zby (sim_not (zaM (t := .bool) zab)) (zag zab zab za5)))) zap) simS_fail))
  refine sm B σ H ι _ [] _ A0 al_run D fun v H' ι' Z' X' R' => ?_
  have R'' : Rep ι' ([] : Store).length H' (.bl true) v := R'
  cases R''
  exact hQ H' fun b o q => X'.keep b o q fun h hh => absurd hh (Nat.not_lt_zero _)
def rIsE2 (K : PySem.W.Frag) (D a : Addr) (d : Option Addr) : List V → Hp → VK → Prop := fun xs H Q => ∃ (c : V) (cv : Value) (b : Bool), xs = [.ref a, c] ∧ (∀ u, RelV c u → u = cv) ∧ PySem.W.kitOne K (.ref D) cv = some b ∧ (∀ dd, d = some dd → ∃ fs, H dd = some (.xd fs)) ∧ Q (.bl b) H
theorem call_isE2 {X : Cx} {a D : Addr} {oe : Obj} {d : Option Addr} {pn : List (Addr × Obj)} (C : ExcC X.K D) (hz : Zc (.ref D) d oe) (hf : ∃ vs, oe.data = .fields vs) : CallR (X.suite a ((a, oe) :: pn)) (.builtin "isinstance") (rIsE2 X.K D a d) := by
  intro pins s σ H xs us Q I r h
  obtain ⟨c, cv, b, rfl, hcv, e, hd, q⟩ := h
  cases r with
  | cons rx rr =>
    cases rr with
    | cons rt rr =>
      cases rr
      cases rx
      have ec := hcv _ rt
      subst ec
      obtain ⟨hget, _⟩ := I.pin (a, oe) (List.mem_append.mpr (.inl List.mem_cons_self))
      obtain ⟨vs, hv⟩ := hf
      have J : ∃ od, PySem.W.InstAt s.heap a oe D od := by
        obtain ⟨oc, od, oda, osl⟩ := oe
        obtain ⟨h1, h2⟩ := hz
        dsimp only at h1 h2 hv
        subst h1 h2 hv
        cases od with
        | none => exact ⟨none, hget, rfl, rfl, trivial⟩
        | some dd =>
          obtain ⟨fs, hx⟩ := hd dd rfl
          have ok : ObjOk X.prog X.w H s.heap dd (.xd fs) := I.hok dd _ hx
          obtain ⟨mA, hns, _⟩ := ok
          obtain ⟨od, ho, _⟩ := lookIn_ns hns
          exact ⟨some od, hget, rfl, rfl, ho⟩
      obtain ⟨od, J⟩ := J
      have cl : (PySem.W.clsIn X.K D).isSome = true := by
        have z := C.hd
        unfold PySem.W.hasDictIn at z
        cases qc : PySem.W.clsIn X.K D with
        | none => rw [qc] at z; cases z
        | some cd => rfl
      exact PySem.W.kia_one (PySem.W.kitx_exc cl C.hg C.hk C.hs C.ha C.hn C.ht C.hm) I.kIn J e (fun z => nomatch z) fun tk => ⟨.bl b, H, I.kept (t' := tk) fun _ _ z => z, rfl, q⟩
def tGd2 (a : Addr) (d : Option Addr) (t : TS) : TS := fun D σ H => σ[6]? = some (some (.ref a)) ∧ (∀ dd, d = some dd → ∃ fs, H dd = some (.xd fs)) ∧ t D σ H
abbrev tIsC2 (K : PySem.W.Frag) (D a : Addr) (d : Option Addr) (v : V) : TE := tCB (rIsE2 K D a d) (tCons (tVar 6) (tCons (tC v) tNil))
theorem isE_red2 {K : PySem.W.Frag} {D a : Addr} {d : Option Addr} {σ : L2.St} {H : Hp} {Q : VK} {v : V} {cv : Value} {b : Bool} (h6 : σ[6]? = some (some (.ref a))) (hd : ∀ dd, d = some dd → ∃ fs, H dd = some (.xd fs)) (hv : ∀ u, RelV v u → u = cv) (kit : PySem.W.kitOne K (.ref D) cv = some b) (q : Q (.bl b) H) : tIsC2 K D a d v σ H Q :=
  ⟨.ref a, h6, v, cv, b, rfl, hv, kit, hd, q⟩
theorem s1_imp2 {K : PySem.W.Frag} {mg : Str → Option Value} {xa : Nat → Addr} {le a : Addr} {d : Option Addr} {c : Nat} (xf : XF K mg xa le) (hc : c < 7) : ∀ D σ H, tGd2 a d (tS1 c) D σ H → tAsg (tLst (tCons (tIsC2 K (xa c) a d (.ref (xa 0))) (tCons (tIsC2 K (xa c) a d (.ref (xa 1))) (tCons (tIsC2 K (xa c) a d (.ref (xa 2))) (tCons (tIsC2 K (xa c) a d (.ref (xa 3))) tNil))))) (gName 3) D σ H :=
  fun D σ H ⟨h6, hd, h⟩ => isE_red2 h6 hd (fun _ z => z) (xf.kit c 0 hc (by decide)) (isE_red2 h6 hd (fun _ z => z) (xf.kit c 1 hc (by decide)) (isE_red2 h6 hd (fun _ z => z) (xf.kit c 2 hc (by decide)) (isE_red2 h6 hd (fun _ z => z) (xf.kit c 3 hc (by decide)) h)))
theorem s2_imp2 {K : PySem.W.Frag} {mg : Str → Option Value} {xa : Nat → Addr} {le a : Addr} {d : Option Addr} {c : Nat} (xf : XF K mg xa le) (hc : c < 7) : ∀ D σ H, tGd2 a d (tS2 K c) D σ H → tAsg (tOp (rAddA K) (tVar 3) (tLst (tCons (tIsC2 K (xa c) a d (.ref (xa 4))) (tCons (tIsC2 K (xa c) a d (.ref (xa 5))) (tCons (tIsC2 K (xa c) a d (.ref (xa 6))) tNil))))) (gName 3) D σ H :=
  fun D σ H ⟨h6, hd, v, h3, h⟩ => ⟨v, h3, isE_red2 h6 hd (fun _ z => z) (xf.kit c 4 hc (by decide)) (isE_red2 h6 hd (fun _ z => z) (xf.kit c 5 hc (by decide)) (isE_red2 h6 hd (fun _ z => z) (xf.kit c 6 hc (by decide)) h))⟩
theorem s4_imp2 {K : PySem.W.Frag} {mg : Str → Option Value} {xa : Nat → Addr} {le a : Addr} {d : Option Addr} {c : Nat} {t : TE} (xf : XF K mg xa le) (hc : c < 7) : ∀ D σ H, tGd2 a d (tIfS (tOr (tNot (tB (tC (.bl true)))) (tTest t)) (tRet (tC (.bl false))) tNext) D σ H → tIfS (tOr (tNot (tB (tIsC2 K (xa c) a d (.ty "ValueError")))) (tTest t)) (tRet (tC (.bl false))) tNext D σ H :=
  fun D σ H ⟨h6, hd, h⟩ => isE_red2 h6 hd (fun u z => z) (xf.kv c hc) h
abbrev tAlx (a : Addr) (cls : Value) (d : Option Addr) (C : Addr) (f : Str) : TE := tCallS spAl (fun _ => L2.E0) (tCons (tXf a cls d C f (tVar 6)) (tCons (tVar 2) tNil))
abbrev tS5' (K : PySem.W.Frag) (a : Addr) (cls : Value) (d : Option Addr) (C : Addr) : TS := tIfS (tTest (tOp (rEqD K) (tVar 1) (tC (.str "history")))) (tRet (tAlx a cls d C "number")) tNext
abbrev tS6' (K : PySem.W.Frag) (a : Addr) (cls : Value) (d : Option Addr) (C : Addr) : TS := tRet (tOrV (tOp (rNeD K) (tVar 1) (tC (.str "text"))) (tAlx a cls d C "row"))
def tSuite2 (K : PySem.W.Frag) (a : Addr) (cls : Value) (d : Option Addr) (C : Addr) (c : Nat) : TS := tSeq (tGd2 a d (tS1 c)) (tSeq (tGd2 a d (tS2 K c)) (tSeq tS3 (tSeq (tGd2 a d (tS4 K)) (tSeq (tS5' K a cls d C) (tS6' K a cls d C)))))
abbrev eS4 : E := eOr (eUn gNot (eLit (.bl true))) (eBin gNe (eVar 3) (eComp (fLst (eVar 4)) (tgName 5) [5] eTrue (eBin gEq (eVar 1) (eVar 5))))
abbrev ρS4 (c : Nat) : Env := [.no, .v (.str (wordOf c)), .no, .l (ks2 c), .l words7, .no, .no]
theorem s4_run : ∀ c : Nat, c < 7 → eS4 (ρS4 c) [] = some (.v (.bl false), []) ∧ (eBin gEq (eVar 1) (eLit (.str "history"))) (ρS4 c) [] = some (.v (.bl (decide (c = 5))), []) ∧ (eBin gNe (eVar 1) (eLit (.str "text"))) (ρS4 c) [] = some (.v (.bl (decide (c ≠ 6))), [])
  | 0, _ => ⟨by kernel_rfl, by kernel_rfl, by kernel_rfl⟩
  | 1, _ => ⟨by kernel_rfl, by kernel_rfl, by kernel_rfl⟩
  | 2, _ => ⟨by kernel_rfl, by kernel_rfl, by kernel_rfl⟩
  | 3, _ => ⟨by kernel_rfl, by kernel_rfl, by kernel_rfl⟩
  | 4, _ => ⟨by kernel_rfl, by kernel_rfl, by kernel_rfl⟩
  | 5, _ => ⟨by kernel_rfl, by kernel_rfl, by kernel_rfl⟩
  | 6, _ => ⟨by kernel_rfl, by kernel_rfl, by kernel_rfl⟩
theorem suite2_sem {P : Program} {w : World} {K : PySem.W.Frag} {a C : Addr} {d : Option Addr} {c : Nat} {i : Int} (hc : c < 7) {D : Ends} {σ : L2.St} {H : Hp} (hl : σ.length = 7) (h1 : σ[1]? = some (some (.str (wordOf c)))) (h2 : σ[2]? = some (some (.int i))) (h6 : σ[6]? = some (some (.ref a)))
    (hd0 : c < 5 → d = none) (hd : 5 ≤ c → ∃ dd, d = some dd ∧ H dd = some (.xd [(fieldOf c, .int i)])) (hQ : ∀ H'', (∀ b o, H b = some o → H'' b = some o) → D.rt (.bl true) H'') : tSuite2 K a (.ref C) d C c D σ H := by
  let W : Wd := ⟨P, w, K, fun _ => 0, []⟩
  let ι : Nat → Addr := fun _ => 0
  let B : Bas := ⟨ι, [], H, ι, 0, fun _ => none⟩
  have Z0 : RSt W ι H [] := ⟨fun h o e => by simp at e, fun i j hi => absurd hi (Nat.not_lt_zero _)⟩
  have N0 : REnv W H ι 0 H [.no, .v (.str (wordOf c)), .no, .no, .no, .no, .no] σ := by
    have key : ∀ (i : Nat) s, ([.no, .v (.str (wordOf c)), .no, .no, .no, .no, .no] : Env)[i]? = some s → s.own = false ∧ ∀ o, σ[i]? = some o → SlOk W H ι 0 H o s := fun i s e => by
      match i, e with
      | 0, e => cases e; exact ⟨rfl, fun _ _ => trivial⟩
      | 1, e => cases e; exact ⟨rfl, fun o eo => by rw [h1] at eo; cases eo; exact ⟨_, rfl, .str _⟩⟩
      | 2, e => cases e; exact ⟨rfl, fun _ _ => trivial⟩
      | 3, e => cases e; exact ⟨rfl, fun _ _ => trivial⟩
      | 4, e => cases e; exact ⟨rfl, fun _ _ => trivial⟩
      | 5, e => cases e; exact ⟨rfl, fun _ _ => trivial⟩
      | 6, e => cases e; exact ⟨rfl, fun _ _ => trivial⟩
      | n + 7, e => simp at e
    exact ⟨by rw [hl]; rfl, fun i s o e1 e2 => (key i s e1).2 o e2, fun i j s t b _ e1 _ ho => by rw [(key i s e1).1] at ho; cases ho⟩
  have A0 : At W B ι [.no, .v (.str (wordOf c)), .no, .no, .no, .no, .no] [] σ H := ⟨Z0, .refl, N0, Nat.zero_le _, fun h hh => absurd hh (Nat.not_lt_zero _), (fun a o q => by cases q), (fun a o i s q => by cases q)⟩
  have m1 : SimE W (tLst (tBs [decide (c = 0), decide (c = 1), decide (c = 2), decide (c = 3)])) (eLst (kindsA c)) := zaH (zaa za9 (zaa za9 (zaa za9 (zaa za9 zac))))
  have m2 : SimE W (tOp (rAddA K) (tVar 3) (tLst (tBs [decide (c = 4), decide (c = 5), decide (c = 6)]))) (eBin gAdd (eVar 3) (eLst (kindsB c))) := zag zab (zaH (zaa za9 (zaa za9 (zaa za9 zac)))) zaz
  have m3 : SimE W (tLst (tWs ["deed", "user", "file", "busy", "letter", "history", "text"])) (eLst [eLit (.str "deed"), eLit (.str "user"), eLit (.str "file"), eLit (.str "busy"), eLit (.str "letter"), eLit (.str "history"), eLit (.str "text")]) :=
    zaH (zaa zaq (zaa zaq (zaa zaq (zaa zaq (zaa zaq (zaa zaq (zaa zaq zac)))))))
  have m4 : SimT W (tOr (tNot (tB (tC (.bl true)))) (tTest (tOp (rNeD K) (tVar 3) (tLc (iList K (tVar 4)) (gName 5) tYes (tOp (rEqD K) (tVar 1) (tVar 5)) [5])))) eS4 := zbk (zaZ (zav za9)) (zan (zag zab (zaN (js := [5]) (vs := [5]) (simI_lst zab) zaF (by decide) zbC (zag zab zab za5)) sim_ne))
  have m5 : SimT W (tTest (tOp (rEqD K) (tVar 1) (tC (.str "history")))) (eBin gEq (eVar 1) (eLit (.str "history"))) := zan (zag zab zaq za5)
  have m6 : SimE W (tOp (rNeD K) (tVar 1) (tC (.str "text"))) (eBin gNe (eVar 1) (eLit (.str "text"))) := zag zab zaq sim_ne
  have kp : ∀ {ι' : Nat → Addr} {H' : Hp}, Ext ι 0 H ι' 0 H' → ∀ b o, H b = some o → H' b = some o := fun X b o q => X.keep b o q fun h hh => absurd hh (Nat.not_lt_zero _)
  have dk : ∀ {H' : Hp}, (∀ b o, H b = some o → H' b = some o) → ∀ dd, d = some dd → ∃ fs, H' dd = some (.xd fs) := fun k dd e => by
    by_cases h5 : c < 5
    · rw [hd0 h5] at e
      cases e
    · obtain ⟨d', e1, e2⟩ := hd (by omega)
      rw [e] at e1
      cases e1
      exact ⟨_, k _ _ e2⟩
  refine ⟨h6, dk (fun _ _ z => z), m1.then A0.Z A0.N (r := .l (ks1 c)) (S1 := []) rfl fun v1 H1 ι1 Z1 X1 _ R1 => ?_⟩
  have A1 := A0.put (i := 3) X1 Z1 R1 rfl
  have g6 : (σ.set 3 (some v1))[6]? = some (some (.ref a)) := by rw [List.getElem?_set_ne (by decide)]; exact h6
  refine ⟨g6, dk (kp A1.X), m2.then A1.Z A1.N (r := .l (ks2 c)) (S1 := []) rfl fun v2 H2 ι2 Z2 X2 _ R2 => ?_⟩
  have A2 := A1.put (i := 3) X2 Z2 R2 rfl
  have k6 : ((σ.set 3 (some v1)).set 3 (some v2))[6]? = some (some (.ref a)) := by rw [List.getElem?_set_ne (by decide)]; exact g6
  show tLst (tWs ["deed", "user", "file", "busy", "letter", "history", "text"]) ((σ.set 3 (some v1)).set 3 (some v2)) H2 (fun x H3 => (tSeq (tGd2 a d (tS4 K)) (tSeq (tS5' K a (.ref C) d C) (tS6' K a (.ref C) d C)) D) (((σ.set 3 (some v1)).set 3 (some v2)).set 4 (some x)) H3)
  refine m3.then A2.Z A2.N (r := .l words7) (S1 := []) rfl fun v3 H3 ι3 Z3 X3 _ R3 => ?_
  have A3 := A2.put (i := 4) X3 Z3 R3 rfl
  have l6 : (((σ.set 3 (some v1)).set 3 (some v2)).set 4 (some v3))[6]? = some (some (.ref a)) := by rw [List.getElem?_set_ne (by decide)]; exact k6
  have l2 : (((σ.set 3 (some v1)).set 3 (some v2)).set 4 (some v3))[2]? = some (some (.int i)) := by
    rw [List.getElem?_set_ne (by decide), List.getElem?_set_ne (by decide), List.getElem?_set_ne (by decide)]; exact h2
  have l1 : (((σ.set 3 (some v1)).set 3 (some v2)).set 4 (some v3))[1]? = some (some (.str (wordOf c))) := by
    rw [List.getElem?_set_ne (by decide), List.getElem?_set_ne (by decide), List.getElem?_set_ne (by decide)]; exact h1
  obtain ⟨run4, run5, run6⟩ := s4_run c hc
  refine ⟨l6, dk (kp A3.X), m4.then A3.Z A3.N run4 fun H4 ι4 Z4 X4 N4 => ?_⟩
  have A4 := A3.ext X4 Z4
  refine m5.then A4.Z A4.N run5 fun H5 ι5 Z5 X5 N5 => ?_
  have A5 := A4.ext X5 Z5
  have call : ∀ (H' : Hp) (f : Str), (∀ b o, H b = some o → H' b = some o) → 5 ≤ c → fieldOf c = f → tAlx a (.ref C) d C f (((σ.set 3 (some v1)).set 3 (some v2)).set 4 (some v3)) H' D.rt := fun H' f k h5 ef => by
    obtain ⟨dd, ed, hx⟩ := hd h5
    refine ⟨.ref a, l6, rfl, rfl, dd, [(fieldOf c, .int i)], .int i, ed, k _ _ hx, by rw [ef]; simp [List.lookup], .int i, l2, i, rfl, fun H'' k' => hQ H'' fun b o q => k' b o (k b o q)⟩
  by_cases h5 : c = 5
  · subst h5
    rw [decide_eq_true rfl, if_pos rfl]
    exact call H5 "number" (kp A5.X) (by decide) rfl
  · rw [decide_eq_false h5, if_neg (by simp)]
    show (tOrV (tOp (rNeD K) (tVar 1) (tC (.str "text"))) (tAlx a (.ref C) d C "row")) (((σ.set 3 (some v1)).set 3 (some v2)).set 4 (some v3)) H5 D.rt
    by_cases h6' : c = 6
    · subst h6'
      refine m6.then A5.Z A5.N run6 fun v6 H6 ι6 Z6 X6 N6 R6 => ?_
      have R6' : Rep ι6 0 H6 (.bl false) v6 := R6
      cases R6'
      exact ⟨false, rfl, call H6 "row" (kp (A5.ext X6 Z6).X) (by decide) rfl⟩
    · refine m6.then A5.Z A5.N run6 fun v6 H6 ι6 Z6 X6 N6 R6 => ?_
      rw [decide_eq_true h6'] at R6
      have R6' : Rep ι6 0 H6 (.bl true) v6 := R6
      cases R6'
      exact ⟨true, rfl, hQ H6 (kp (A5.ext X6 Z6).X)⟩
end Ev
namespace Ev
open PySem PySem.Spec PyProof.Rows L2 LamX NdefX
def RefAt2 (P : Program) (w : World) (K : PySem.W.Frag) (mg : Str → Option Value) (base : Heap) (xa : Nat → Addr) (k : Nat) (X0 : Cx) (σ0 : L2.St) (word : Str) (n : Int) (f : Addr) (H : Hp) (Q : VK) : Prop :=
  ∃ (F : Lm) (fr : List Str) (js : List Nat) (tl : XK → Hp → Prop), LmAt H f F ∧ Caps X0 F.cl fr js ∧ LmX P w K mg base k F fr (js.map (slotAt σ0)) tl ∧ (∀ E E' H, (∀ cls d H', E cls d H' → E' cls d H') → tl E H → tl E' H) ∧ tl (Good2 xa word n Q) H
def tRefd2 (P : Program) (w : World) (K : PySem.W.Frag) (mg : Str → Option Value) (base : Heap) (xa : Nat → Addr) (k : Nat) (X0 : Cx) (σof : L2.St → L2.St) (te tn : TE) (word : Str) : TE := fun σ H Q => te σ H fun v H1 => tn σ H1 fun u H2 => ∃ f n, v = .ref f ∧ u = .int n ∧ RefAt2 P w K mg base xa k X0 (σof σ) word n f H2 Q
theorem pe_refd2 {X X0 : Cx} {σof : L2.St → L2.St} {xa : Nat → Addr} {k : Nat} {g : Addr} {te tn : TE} {word : Str} {e0 e2 : Expr} {j1 : Nat} {p p1 pos : Pos} (hg : Gl X "_law_refused") (hm : X.mg "_law_refused" = some (.ref g)) (hk : PySem.W.keepIn X.K (.ref g) = true)
    (R : RefOk2 X.prog X.w X.K X.mg X.base xa k g) (room : Room (k + 2) X.A) (he : PE X e0 te) (hn : PE X e2 tn) (ok0 : ∀ pins σ H s, Inv X pins σ H s → X0.Ok ∧ CapAt X0 (σof σ) s.heap H ∧ ∀ y c, X0.env.cells.lookup y = some c → c ∉ frs X.stack)
    (hst : starEach [e0, .Constant (.str word) j1 p1, e2] X.env = (false, eval e0 X.env) :: starEach [.Constant (.str word) j1 p1, e2] X.env := by rfl)
    (hs2 : starEach [e2] X.env = (false, eval e2 X.env) :: starEach [] X.env := by rfl)
    (hpl : (backTo pos (starEach [.Constant (.str word) j1 p1, e2] X.env)).any (·.1) = false := by rfl) :
    PE X (.Call (.Name "_law_refused" p) [e0, .Constant (.str word) j1 p1, e2] [] pos) (tRefd2 X.prog X.w X.K X.mg X.base xa k X0 σof te tn word) := by
  refine ⟨fun pins s σ H Q I h => ?_⟩
  refine wpAny_Call_Name_kw (ld_glob I hg hm ?_ (by decide))
  have ha : PA X [e0, .Constant (.str word) j1 p1, e2] (tCons te (tCons (tC (.str word)) (tCons tn tNil))) := pa_cons he (pa_cons pe_str (pa_cons hn pa_nil (hs := hs2))) (hs := hst)
  refine PySem.W.callWith_K (h₀ := X.base) I.ok.mod.kin hk (thn (ha.run pos pins s σ H (fun vs H1 => match vs with
    | [v, .str w', u] => ∃ f n, v = .ref f ∧ u = .int n ∧ RefAt2 X.prog X.w X.K X.mg X.base xa k X0 (σof σ) w' n f H1 Q
    | _ => False) I h) fun us s1 ⟨vs, H1, J, r, qv⟩ => ⟨J.kIn, ?_⟩) hst hpl
  dsimp only at qv
  split at qv
  · rename_i v w' u
    obtain ⟨f, i, rfl, rfl, F, fr, js, tl, at_, cp, L, mono, q⟩ := qv
    cases r with
    | cons r0 r =>
      cases r with
      | cons r1 r =>
        cases r with
        | cons r2 r =>
          cases r
          cases r0
          obtain ⟨tw, rfl⟩ := r1
          obtain ⟨tv, rfl⟩ := r2
          obtain ⟨okX, cap, nf⟩ := ok0 pins σ H1 s1 J
          have C := cap.cells okX cp
          refine wpAny_call (codeAny_mono (R X.A X.stack s1 H1 f F fr _ tl w' i Q tw tv room J.env0 C (fun y c e => nf y c (cp.sub y c e)) at_ L mono q) fun r s' z => ?_)
          cases r with
          | error e => exact (show False from z).elim
          | ok fl => cases fl <;> first | exact J.after z | exact False.elim z
  · exact qv.elim
section
variable {W : Wd} {ι ι' : Nat → Addr} {n n' : Nat} {H H' H0 H1 : Hp} {S S' : Store} {ρ : Env} {σ : L2.St} {PT : Addr} {q : Str}
section
variable {P : Program} {w : World} {mg : Str → Option Value} {base : Heap} {xa : Nat → Addr} {k : Nat} {X0 : Cx} {word : Str} {num : Int} {tn : TE}
def RzAt2 (P : Program) (w : World) (mg : Str → Option Value) (base : Heap) (xa : Nat → Addr) (k : Nat) (X0 : Cx) (W : Wd) (q : Str) (ρ : Env) (σ : L2.St) (word : Str) (num : Int) (l : Ls) (S S' : Store) : Prop :=
  ∀ (ι : Nat → Addr) (H : Hp) (f c : Addr) (dv : Value) (Q : VK), Mid W ι ρ S σ H → LmK ι S.length H f (l.lm q c dv) → l.dOk dv →
    (∀ H' ι', RSt W ι' H' S' → Ext ι S.length H ι' S'.length H' → ∀ H'', (∀ b o, H' b = some o → H'' b = some o) → Q (.bl true) H'') → RefAt2 P w W.K mg base xa k X0 σ word num f H Q
inductive RzAll2 (P : Program) (w : World) (mg : Str → Option Value) (base : Heap) (xa : Nat → Addr) (k : Nat) (X0 : Cx) (W : Wd) (q : Str) (ρ : Env) (σ : L2.St) (word : Str) (num : Int) : List Ls → Store → Store → Prop
  | nil {S : Store} : RzAll2 P w mg base xa k X0 W q ρ σ word num [] S S
  | cons {l : Ls} {r : List Ls} {S S1 S' : Store} : RzAt2 P w mg base xa k X0 W q ρ σ word num l S S1 → RzAll2 P w mg base xa k X0 W q ρ σ word num r S1 S' → RzAll2 P w mg base xa k X0 W q ρ σ word num (l :: r) S S'
abbrev tRt2 (P : Program) (w : World) (K : PySem.W.Frag) (mg : Str → Option Value) (base : Heap) (xa : Nat → Addr) (k : Nat) (X0 : Cx) (wi : Nat) (tn : TE) (word : Str) (σ : L2.St) : TT := tNot (tB (tRefd2 P w K mg base xa k X0 (fun _ => σ) (tVar wi) tn word))
theorem comp_sem2 {ls : List Ls} {fs : List Addr} {a : Addr} {wi : Nat} {te : TE} {Q : VK} (M : MidT W PT q ι ρ S σ H) (st : Stand q ι S.length H ls fs) (ka : KpX ι S.length H a (.lst (fs.map V.ref))) (rz : RzAll2 P w mg base xa k X0 W q ρ σ word num ls S S') (hw : wi < σ.length) (htn : ∀ (σ2 : L2.St) (H : Hp) (R : VK), (∀ j, j ≠ wi → σ2[j]? = σ[j]?) → R (.int num) H → tn σ2 H R)
    (hQ : ∀ D H' ι', MidT W PT q ι' ρ S' σ H' → Stay ι S.length H ι' S'.length H' → KpX ι' S'.length H' D (.lst []) → Q (.ref D) H') :
    ∀ D, H D = none → ∃ Wv : Nat → Nat → Hp → Prop, (∃ m, Wv 0 m (upd H D (.lst []))) ∧ ∀ i m H2, Wv i m H2 →
      ((Itl W.K a).stop i H2 ∧ Q (.ref D) H2) ∨ ((Itl W.K a).go i H2 ∧ ∃ Nx : Hp → Prop, (∀ H', Nx H' → ∃ m', m' < m ∧ Wv (i + 1) m' H') ∧ ∀ x H', (Itl W.K a).yld i H2 x H' → gName wi x (wipe σ [wi]) H' fun σ2 H2 => wipe σ2 [wi] = wipe σ [wi] ∧
        tRt2 P w W.K mg base xa k X0 wi tn word σ σ2 H2 fun b H3 => if b = true then te σ2 H3 fun y H4 => ∃ acc, H4 D = some (.lst acc) ∧ acc.length < sizeLine ∧ Nx (upd H4 D (.lst (acc ++ [y]))) else Nx H3) := by
  intro D newD
  have lenF := st.length
  refine ⟨fun i m H2 => i + m = ls.length ∧ ∃ ι2 Si, RzAll2 P w mg base xa k X0 W q ρ σ word num (ls.drop i) Si S' ∧ MidT W PT q ι2 ρ Si σ H2 ∧ Stay ι S.length H ι2 Si.length H2 ∧ KpX ι2 Si.length H2 D (.lst []), ⟨ls.length, by omega, ι, S, by simpa using rz, M.upd newD, .extN (extN_of (upd_keep newD)), upd_same, M.m.Z.ne_new newD⟩, ?_⟩
  rintro i m H2 ⟨him, ι2, Si, rz2, M2, s2, kD⟩
  have ka2 := s2 _ _ ka fun _ => nofun
  have sq : SqL W.K H2 a (fs.map V.ref) := .inl (.inl ka2.1)
  cases hd : ls[i]? with
  | none =>
    have hle : ls.length ≤ i := List.getElem?_eq_none_iff.mp hd
    rw [List.drop_eq_nil_of_le hle] at rz2
    cases rz2
    exact .inl ⟨⟨_, sq, by rw [List.length_map, lenF]; exact hle⟩, hQ D H2 ι2 M2 s2 kD⟩
  | some l =>
    have hlt : i < ls.length := (List.getElem?_eq_some_iff.mp hd).1
    have hdrop : ls.drop i = l :: ls.drop (i + 1) := by
      rw [List.drop_eq_getElem_cons hlt]
      congr 1
      have := List.getElem?_eq_getElem hlt
      rw [hd] at this
      exact (Option.some.inj this).symm
    rw [hdrop] at rz2
    cases rz2 with
    | @cons _ _ _ S1 _ r1 rr =>
      obtain ⟨f, c, dv, ef, kf, df⟩ := (st.stay s2).get hd
      have ex : (fs.map V.ref)[i]? = some (.ref f) := by rw [List.getElem?_map, ef]; rfl
      refine .inr ⟨⟨_, .ref f, sq, ex⟩, fun H' => (i + 1) + (m - 1) = ls.length ∧ ∃ ι2 Si, RzAll2 P w mg base xa k X0 W q ρ σ word num (ls.drop (i + 1)) Si S' ∧ MidT W PT q ι2 ρ Si σ H' ∧ Stay ι S.length H ι2 Si.length H' ∧ KpX ι2 Si.length H' D (.lst []), fun H' nx => ⟨m - 1, by omega, nx⟩, ?_⟩
      rintro x H' ⟨rfl, hx⟩
      have e2 := hx _ sq
      rw [ex] at e2
      cases e2
      refine ⟨?_, .ref f, ?_, htn _ _ _ (fun j hj => ?_) ⟨f, num, rfl, rfl, r1 ι2 H' f c dv _ M2.m kf df fun H3 ι3 Z3 X3 H4 k4 => ⟨true, rfl, ?_⟩⟩⟩
      · show ((σ.set wi none).set wi (some (V.ref f))).set wi none = σ.set wi none
        rw [List.set_set, List.set_set]
      · show ((σ.set wi none).set wi (some (V.ref f)))[wi]? = some (some (V.ref f))
        rw [List.getElem?_set_self (by simpa using hw)]
      · show ((σ.set wi none).set wi (some (V.ref f)))[j]? = σ[j]?
        rw [List.getElem?_set_ne (Ne.symm hj), List.getElem?_set_ne (Ne.symm hj)]
      · have M3 := (M2.ext X3 Z3).extF k4
        have s3 : Stay ι S.length H ι3 S1.length H4 := (s2.trans (.ext X3)).trans (.extN (extN_of k4))
        have kD3 : KpX ι3 S1.length H4 D (.lst []) := (Stay.trans (.ext X3) (.extN (extN_of k4))) _ _ kD fun _ => nofun
        exact ⟨by omega, ι3, S1, rr, M3, s3, kD3⟩
theorem comp_if2 {ls : List Ls} {wi : Nat} {tl : TE} {D : Ends} (M : MidT W PT q ι ρ S σ H)
    (tls : ∀ R : VK, (∀ a fs H1, MidT W PT q ι ρ S σ H1 → Stay ι S.length H ι S.length H1 → Stand q ι S.length H1 ls fs → KpX ι S.length H1 a (.lst (fs.map V.ref)) → R (.ref a) H1) → tl σ H R)
    (rz : RzAll2 P w mg base xa k X0 W q ρ σ word num ls S S') (hw : wi < σ.length) (htn : ∀ (σ2 : L2.St) (H : Hp) (R : VK), (∀ j, j ≠ wi → σ2[j]? = σ[j]?) → R (.int num) H → tn σ2 H R) (go : ∀ H' ι', MidT W PT q ι' ρ S' σ H' → Stay ι S.length H ι' S'.length H' → D.nx σ H') :
    tIfS (tTest (tOp (rNeD W.K) (fun σ H Q => tLc (iList W.K tl) (gName wi) (tRt2 P w W.K mg base xa k X0 wi tn word σ) (tVar wi) [wi] σ H Q) (tLst tNil))) (tRet (tC (.bl false))) tNext D σ H := by
  refine tls _ fun a fs H1 M1 s1 st ka => ⟨a, rfl, ⟨_, .inl (.inl ka.1)⟩, ?_⟩
  refine comp_sem2 (te := tVar wi) (Q := fun x H2 => tLst tNil σ H2 fun y H3 => rNeD W.K x y H3 fun z H4 => ∃ b, z = .bl b ∧ (if b = true then tRet (tC (.bl false)) D σ H4 else tNext D σ H4)) M1 st ka rz hw htn fun L H2 ι2 M2 s2 kL => ?_
  refine ⟨Nat.zero_le _, fun p hp => ?_⟩
  have M3 := M2.upd (o := .lst []) hp
  have s3 : Stay ι2 S'.length H2 ι2 S'.length (upd H2 p (.lst [])) := .extN (extN_of (upd_keep hp))
  have kL3 := s3 _ _ kL fun _ => nofun
  refine sim_ne (upd H2 p (.lst [])) ι2 S' H2 H2 (.b []) (.l []) (.v (.bl false)) (.ref L) (.ref p) M3.m.Z ⟨L, [], rfl, kL3.1, .nil, kL3.2⟩ ⟨p, [], rfl, upd_same, .nil, hp, M2.m.Z.ne_new hp⟩ rfl _ fun v H4 Z4 X4 R4 => ?_
  have R4' : Rep ι2 S'.length H4 (.bl false) v := R4
  cases R4'
  refine ⟨false, rfl, ?_⟩
  exact go H4 ι2 (M3.ext X4 Z4) (((s1.trans s2).trans s3).trans (.ext X4))
end
theorem capt_slots (M : Mid W ι ρ S σ H) : ∀ {js : List Nat} {ss : List Sl}, js.map (fun j => ρ[j]?) = ss.map some → (∀ s ∈ ss, s ≠ .no) → ∃ us : List V, js.map (slotAt σ) = us.map some ∧ All2 (fun s v => SlOk W H ι S.length H (some v) s ∧ s.own = false) ss us
  | [], [], _, _ => ⟨[], rfl, .nil⟩
  | [], _ :: _, h, _ => by cases h
  | _ :: _, [], h, _ => by cases h
  | j :: js, s :: ss, h, hn => by
    simp only [List.map_cons, List.cons.injEq] at h
    obtain ⟨us, e, r⟩ := capt_slots M h.2 fun t ht => hn t (by simp [ht])
    have hj : j < σ.length := by
      have z := (List.getElem?_eq_some_iff.mp h.1).1
      rw [M.N.len] at z
      exact z
    have ok := M.N.at_ j _ σ[j] h.1 (by simp [hj])
    have no := M.own j s h.1
    have key : ∃ v, σ[j] = some v := by
      cases s with
      | no => exact absurd rfl (hn .no (by simp))
      | v d => obtain ⟨v, ev, _⟩ := ok; exact ⟨v, ev⟩
      | l xs => cases no
      | b xs => obtain ⟨a, vs, e1, _⟩ := ok; exact ⟨_, e1⟩
      | f xs => obtain ⟨a, vs, e1, _⟩ := ok; exact ⟨_, e1⟩
      | d k kvs => cases no
    obtain ⟨v, ev⟩ := key
    have sl : slotAt σ j = some v := slotAt_of (by simp [hj, ev])
    rw [ev] at ok
    exact ⟨v :: us, by simp [sl, e], .cons ⟨slot_any ok no, no⟩ r⟩
theorem capt_envS {js : List Nat} {ss es : List Sl} {vs : List V} {N : List Str} (M : Mid W ι ρ S σ H) (hj : js.map (fun j => ρ[j]?) = ss.map some) (hno : ∀ s ∈ ss, s ≠ .no) (hv : All2 (fun s v => SlOk W H ι S.length H (some v) s ∧ s.own = false) es vs) (hN : N.length = es.length + ss.length) :
    REnv W H ι S.length H (es ++ ss) (startF N vs (js.map (slotAt σ))) := by
  obtain ⟨us, e, r⟩ := capt_slots M hj hno
  have all := hv.append r
  have l1 := hv.length
  have l2 := r.length
  have z := entry_env (m := N.length) all
  have e1 : N.length - (es ++ ss).length = 0 := by simp; omega
  have e2 : N.length - (vs ++ us).length = 0 := by simp; omega
  rw [e1, e2] at z
  simp only [List.replicate_zero, List.append_nil] at z
  unfold startF
  have e3 : N.length - vs.length - (js.map (slotAt σ)).length = 0 := by rw [e]; simp; omega
  rw [e3, e]
  simpa using z
section
variable {P : Program} {w : World} {mg : Str → Option Value} {base : Heap} {xa : Nat → Addr} {k : Nat} {X0 : Cx} {num : Int}
theorem rzY_of {l : Ls} {fr N : List Str} {js : List Nat} {ss es : List Sl} {vs : List V} {c : Nat} {d : Option Int} (hc : c < 7) (hd : 5 ≤ c → d = some num) (hd0 : c < 5 → d = none) (cp : Caps X0 l.cl fr js) (hj : js.map (fun j => ρ[j]?) = ss.map some) (hno : ∀ s ∈ ss, s ≠ .no) (hv : ∀ ι H, All2 (fun s v => SlOk W H ι S.length H (some v) s ∧ s.own = false) es vs) (hN : N.length = es.length + ss.length)
    (L : ∀ c' dv, l.dOk dv → LmX P w W.K mg base k (l.lm q c' dv) fr (js.map (slotAt σ)) (tlOfY W xa (es ++ ss) (startF N vs (js.map (slotAt σ))) S S' c d)) : RzAt2 P w mg base xa k X0 W q ρ σ (wordOf c) num l S S' := by
  intro ι H f c' dv Q M kf df hQ
  refine ⟨l.lm q c' dv, fr, js, _, kf.at, cp, L c' dv df, fun E E' H h => tlOfY_mono h, ι, M.Z, capt_envS M hj hno (hv ι H) hN, ?_⟩
  by_cases h5 : 5 ≤ c
  · rw [hd h5]
    exact fun H' ι' dd Z' X' e a => ⟨c, hc, rfl, rfl, fun h => absurd h5 (by omega), fun _ => ⟨dd, rfl, e⟩, hQ H' ι' Z' X'⟩
  · rw [hd0 (by omega)]
    exact fun H' ι' Z' X' => ⟨c, hc, rfl, rfl, fun _ => rfl, fun h => absurd h h5, hQ H' ι' Z' X'⟩
theorem rzY_0 {l : Ls} {fr N : List Str} {js : List Nat} {ss : List Sl} {c : Nat} {d : Option Int} {t : XK → TE} {g : Env → Store → Option (Nat × Option Int × Store)} (hc : c < 7) (h5 : 5 ≤ c → d = some num) (h0 : c < 5 → d = none) (hd : l.d = false) (cp : Caps X0 l.cl fr js) (hj : js.map (fun j => ρ[j]?) = ss.map some) (hno : ∀ s ∈ ss, s ≠ .no) (hN : N.length = ss.length) (sc : NScope N [] fr l.scope)
    (hb : ∀ c' doc pm ctv, bindArgs ((l.lm q c' .none).fd doc pm ctv) ⟨[], []⟩ = pure [])
    (body : ∀ c' dv f A outer s H E, Room k (A.deeper (envF (l.lm q c' dv).nf f s.heap.objs.size)) → PE (ncx (L2N.CX P w) P w W.K mg base N (l.lm q c' dv).nf f A outer s H E) l.body (t E)) (sim : SimEY W xa t g) (e : g ss S = some (c, d, S')) : RzAt2 P w mg base xa k X0 W q ρ σ (wordOf c) num l S S' :=
  rzY_of (es := []) (vs := []) hc h5 h0 cp hj hno (fun _ _ => .nil) (by rw [hN]; simp) fun c' dv df => by
    obtain rfl := df.2 hd
    exact lmY_0 sc (hb c') (body c' .none) sim e
theorem rzY_1 {l : Ls} {fr N : List Str} {p : Str} {js : List Nat} {ss : List Sl} {c : Nat} {d : Option Int} {t : XK → TE} {g : Env → Store → Option (Nat × Option Int × Store)} (hc : c < 7) (h5 : 5 ≤ c → d = some num) (h0 : c < 5 → d = none) (hd : l.d = true) (cp : Caps X0 l.cl fr js) (hj : js.map (fun j => ρ[j]?) = ss.map some) (hno : ∀ s ∈ ss, s ≠ .no) (hN : N.length = 1 + ss.length) (sc : NScope N [p] fr l.scope)
    (hb : ∀ c' dv doc pm ctv, ∃ k, bindArgs ((l.lm q c' dv).fd doc pm ctv) ⟨[], []⟩ = seqItems? dv >>= k ∧ ∀ u, k (some #[u]) = pure [(p, u)])
    (body : ∀ c' dv f A outer s H E, Room k (A.deeper (envF (l.lm q c' dv).nf f s.heap.objs.size)) → PE (ncx (L2N.CX P w) P w W.K mg base N (l.lm q c' dv).nf f A outer s H E) l.body (t E)) (sim : SimEY W xa t g) (e : g (.v (.int 0) :: ss) S = some (c, d, S')) : RzAt2 P w mg base xa k X0 W q ρ σ (wordOf c) num l S S' :=
  rzY_of (es := [.v (.int 0)]) (vs := [.int 0]) hc h5 h0 cp hj hno (fun _ _ => .cons ⟨⟨_, rfl, .int 0⟩, rfl⟩ .nil) (by rw [hN]; simp) fun c' dv df => lmY_1 sc (df.1 hd) (hb c' dv) (body c' dv) sim e
end
end
end Ev
namespace Ev
open PySem PySem.Spec PyProof.Rows L2
theorem pe_gstr {X : Cx} {x : Str} {z : Str} {pos : Pos} (h : ∃ t, X.mg x = some (.str z t)) (hg : Gl X x) (hd : (x == ("__debug__" : Str)) = false := by decide) : PE X (.Name x pos) (tC (.str z)) := by
  obtain ⟨t, h⟩ := h
  exact pe_glob hg h ⟨t, rfl⟩ hd
def strsOf : List D → Option (List Str)
  | [] => some []
  | .str s :: r => (strsOf r).map fun ys => s :: ys
  | _ => none
section
variable {W : Wd} {ι ι' ι1 : Nat → Addr} {n n' : Nat} {H H' H0 H1 Ha : Hp} {S S' S1 : Store}
theorem strs_reps : ∀ {ds : List D} {ys : List Str} {vs : List V}, strsOf ds = some ys → Reps ι n H ds vs → vs = ys.map V.str
  | [], ys, vs, e, r => by cases e; cases r; rfl
  | .str s :: ds, ys, vs, e, r => by
    cases r with
    | cons r1 r2 =>
      cases r1
      rw [strsOf] at e
      cases q : strsOf ds with
      | none => rw [q] at e; cases e
      | some zs =>
        rw [q] at e
        cases e
        rw [strs_reps q r2]
        rfl
theorem strs_map : ∀ (ys : List Str), strsOf (ys.map D.str) = some ys
  | [] => rfl
  | y :: ys => by rw [List.map_cons, strsOf, strs_map ys]; rfl
def joinR (S : Store) (x y : R) : Option R := match x with
  | .v (.str a) => (y.lseq S).bind fun ds => (strsOf ds).bind fun ys => if (ys.map (·.length)).sum + ys.length * a.length ≤ 16777216 then some (.v (.str (Txt.join a ys))) else none
  | _ => none
def eJoin (fo fe : E) : E := fun ρ S => bnd (fo ρ S) fun x S1 => bnd (fe ρ S1) fun y S2 => (joinR S2 x y).map fun z => (z, S2)
abbrev tJoinS (K : PySem.W.Frag) (to te : TE) : TE := tM1 (fun x xs H Q => ∃ a p, ∃ ys : List Str, x = .str a ∧ xs = [.ref p] ∧ (SqL K H p (ys.map V.str) ∨ SqT K H p (ys.map V.str)) ∧ (ys.map (·.length)).sum + ys.length * a.length ≤ 16777216 ∧ Q (.str (Txt.join a ys)) H) to te
theorem sim_join {to te : TE} {fo fe : E} (ho : SimE W to fo) (he : SimE W te fe) : SimE W (tJoinS W.K to te) (eJoin fo fe) := by
  intro σ H ι ρ S H0 r S' Z N e Q hQ
  obtain ⟨x, S1, e1, e'⟩ := zat e
  clear e
  obtain ⟨y, S2, e2, e⟩ := zat e'
  clear e'
  unfold joinR at e
  split at e
  · rename_i a
    cases q : y.lseq S2 with
    | none => rw [q] at e; cases e
    | some ds =>
      rw [q] at e
      cases q2 : strsOf ds with
      | none => simp [q2] at e
      | some ys =>
        simp only [Option.bind_some, q2] at e
        split at e
        · rename_i hl
          cases e
          refine ho.then Z N e1 fun v1 H1 ι1 Z1 X1 N1 R1 => ?_
          have R1' : Rep ι1 S1.length H1 (.str a) v1 := R1
          cases R1'
          refine ⟨⟨a, rfl⟩, he.then Z1 N1 e2 fun v2 H2 ι2 Z2 X2 N2 R2 => ?_⟩
          obtain ⟨p, ws, rfl, h1, h2⟩ := lseq_rep Z2 R2 q
          rw [strs_reps q2 h2] at h1
          exact ⟨a, p, ys, rfl, rfl, .inl (.inl h1), hl, hQ _ H2 ι2 Z2 (X1.trans X2 Z1) (.str _)⟩
        · cases e
  · cases e
end
end Ev
namespace Ev
open PySem PySem.Spec PyProof.Rows L2 He
def asX (g : Addr → Option Obj) (n : Nat) : List Addr := asD g n ++ [cStatics]
def obsXA (n : Nat) (fa : List Fa) (fn : List DefD) (ts : List Tab) (tf : List Defn) (ex : PySem.W.Frag → Bool) (g : Addr → Option Obj) : AlX := (obsT fa fn ts (frT g (asX g n)), ex (frT g (asX g n)) && tabsB g tf (frT g (asX g n)))
theorem saysXA_of {n : Nat} {fa : List Fa} {fn : List DefD} {ts : List Tab} {tf : List Defn} {ex : PySem.W.Frag → Bool} {w : World} {h : Heap} (e : obsXA n fa fn ts tf ex h.get? = valX fn ts w) : SaysX fa fn ts tf ex w h (frT h.get? (asX h.get? n)) := by
  have e1 : obsT fa fn ts (frT h.get? (asX h.get? n)) = valT fn ts w := congrArg (fun z : AlX => z.1) e
  have e2 : (ex (frT h.get? (asX h.get? n)) && tabsB h.get? tf (frT h.get? (asX h.get? n))) = true := congrArg (fun z : AlX => z.2) e
  obtain ⟨h1, h2⟩ := ba e2
  have key : ∀ p ∈ tf, PySem.W.codeHdIn (frT h.get? (asX h.get? n)) (cT (frT h.get? (asX h.get? n)) p).1 (cT (frT h.get? (asX h.get? n)) p).2 = true ∧ ∃ o, h.get? (cT (frT h.get? (asX h.get? n)) p).2 = some o ∧ emptyTab o = true := fun p hp => by
    obtain ⟨h3, h4⟩ := ba (List.all_eq_true.mp h2 p hp)
    refine ⟨h3, ?_⟩
    cases q : h.get? (cT (frT h.get? (asX h.get? n)) p).2 with
    | none =>
      rw [q] at h4
      cases h4
    | some o =>
      rw [q] at h4
      exact ⟨o, rfl, h4⟩
  exact ⟨e1, h1, fun p hp => (key p hp).1, fun p hp => by
    obtain ⟨_, o, q, z⟩ := key p hp
    exact frT_none q z, fun p hp => by
    obtain ⟨_, o, q, z⟩ := key p hp
    rw [q, emptyTab_eq z]⟩
def hookXA (n : Nat) (fa : List Fa) (fn : List DefD) (ts : List Tab) (tf : List Defn) (ex : PySem.W.Frag → Bool) : PySem.W.Hook where
  α := AlX
  obs := fun s => obsXA n fa fn ts tf ex s.heap.get?
  val := fun w => valX fn ts w
  says := fun w h => ∃ K : PySem.W.Frag, K.In h ∧ SaysX fa fn ts tf ex w h K
  of := fun _ _ e => ⟨_, frT_in, saysXA_of e⟩
  keeps := fun _ _ _ ⟨K, hK, c⟩ k => ⟨K, PySem.W.Frag.In.keeps hK k, ⟨c.t, c.more, c.hd, c.out, fun p hp => k _ _ (c.empty p hp)⟩⟩
theorem obsXA_eq {n : Nat} {fa : List Fa} {fn : List DefD} {ts : List Tab} {tf : List Defn} {ex : PySem.W.Frag → Bool} {g : Addr → Option Obj} {s : Shared} (h : ∀ a, g a = s.heap.get? a) : obsXA n fa fn ts tf ex g = (hookXA n fa fn ts tf ex).obs s := by
  have e : g = s.heap.get? := funext h
  rw [e] <;> rfl
end Ev
set_option maxHeartbeats 0
namespace Ev
open PySem L2
def zbu : Sx := (sAsg 2 (eBin gMod (eBin gAdd (eBin gMul (eVar 2) (eLit (.int 31))) (eBlt gAbs [(eVar 3)])) (eLit (.int 2147483647))))
def bo__law_dice : Sx := (sSeq (sAsg 2 (eVar 1)) (sSeq (sFor (fVar 0) (tgName 3) zbu) (sRet (eBin gAdd (eLst [(eVar 2), (eLit (.int 0))]) (eComp (fVar 0) (tgName 3) [3] (eBin gGe (eVar 3) (eBin gPow (eLit (.int 10)) (eLit (.int 18)))) (eVar 3))))))
def zaT : Ru := runOf 4 bo__law_dice
def bo__law_off : Sx := (sSeq (sIf (eAnd (eBin gEq (eBin gIx (eVar 0) (eLit (.int 1))) (eLit (.int 0))) (eBin gGt (eBlt gLen [(eVar 0)]) (eLit (.int 2)))) (sSet (eVar 0) (eLit (.int 1)) (eLPop (eVar 0) (eLit (.int 2)))) sNil) (sSeq (sIf (eBin gGt (eBin gIx (eVar 0) (eLit (.int 1))) (eLit (.int 0))) (sSeq (sAsg 2 (eBin gMod (eBin gIx (eVar 0) (eLit (.int 1))) (eVar 1))) (sSeq (sSet (eVar 0) (eLit (.int 1)) (eBin gFdiv (eBin gIx (eVar 0) (eLit (.int 1))) (eVar 1))) (sRetVar 2))) sNil) (sSeq (sSet (eVar 0) (eLit (.int 0)) (eBin gMod (eBin gAdd (eBin gMul (eBin gIx (eVar 0) (eLit (.int 0))) (eLit (.int 48271))) (eLit (.int 11))) (eLit (.int 2147483647)))) (sRet (eBin gMod (eBin gFdiv (eBin gIx (eVar 0) (eLit (.int 0))) (eLit (.int 64))) (eVar 1))))))
def zae : Ru := runOf 3 bo__law_off
def bd__law_mixed_1 : Sx := (sAppPop 3 2 (eCall zae [] [(eVar 0), (eBlt gLen [(eVar 2)])]))
def bo__law_mixed : Sx := (sSeq (sAsg 2 (eBlt gList [(eVar 1)])) (sSeq (sAsg 3 (eLst [])) (sSeq (whileF (eBin gNe (eVar 2) (eLst [])) bd__law_mixed_1 100000) (sRetVar 3))))
def zaY : Ru := runOf 4 bo__law_mixed
def bo__law_some : Sx := (sRet (eDispGet [1, 2, 3] [(eLst [(eLit (.int 9))]), (eLst [(eLit (.int 0)), (eLit (.int 9))]), (eLst [(eLit (.int 0)), (eLit (.int 4)), (eLit (.int 9))])] (eVar 0) (eListRg (eVar 0))))
def zaS : Ru := runOf 1 bo__law_some
def bo__law_files : Sx := (sSeq (sAsg 2 (eSlice (eCall zaY [] [(eVar 0), (eCall zaS [] [(eVar 1)])]) none (some (eBin gAdd (eLit (.int 1)) (eCall zae [] [(eVar 0), (eBlt gMin [(eLit (.int 4)), (eVar 1)])]))))) (sRet (eBlt gTuple [(eBlt gSorted [(eVar 2)])])))
def za4 : Ru := runOf 3 bo__law_files
def bo__law_deed : Sx := (sSeq (sAsg 2 (eCall zae [] [(eVar 0), (eLit (.int 10))])) (sSeq (sIf (eBin gLt (eVar 2) (eLit (.int 5))) (sRet (eTup [(eLit (.str "look")), (eCall za4 [] [(eVar 0), (eVar 1)])])) sNil) (sSeq (sAsg 3 (ePick [(eCall zae [] [(eVar 0), (eLit (.int 6))]), (ePick [(eLit (.int 700)), (eCall zae [] [(eVar 0), (eLit (.int 1000))])] (eCall zae [] [(eVar 0), (eLit (.int 2))]))] (eBlt gInt [(eBin gEq (eCall zae [] [(eVar 0), (eLit (.int 4))]) (eLit (.int 0)))]))) (sSeq (sIf (eBin gLt (eVar 2) (eLit (.int 7))) (sRet (eTup [(eLit (.str "put")), (eBlt gTuple [(eComp (fSeq (eCall za4 [] [(eVar 0), (eVar 1)])) (tgName 4) [4] eTrue (eTup [(eVar 4), (eBin gAdd (eCall zae [] [(eVar 0), (eLit (.int 5))]) (eBin gMod (eVar 3) (eLit (.int 996))))]))])])) sNil) (sSeq (sIf (eOr (eBin gLt (eVar 2) (eLit (.int 9))) (eBin gLt (eVar 1) (eLit (.int 2)))) (sRet (eTup [(eLit (.str "add")), (eBin gIx (eCall zaS [] [(eVar 1)]) (eCall zae [] [(eVar 0), (eVar 1)])), (ePick [(eBin gAdd (eLit (.int 1)) (eCall zae [] [(eVar 0), (eLit (.int 4))])), (eVar 3)] (eBlt gInt [(eBin gEq (eCall zae [] [(eVar 0), (eLit (.int 4))]) (eLit (.int 0)))]))])) sNil) (sSeq (sUnp [4, 5] (eSlice (eCall zaY [] [(eVar 0), (eCall zaS [] [(eVar 1)])]) none (some (eLit (.int 2))))) (sRet (eTup [(eLit (.str "move")), (eVar 4), (eVar 5), (ePick [(eCall zae [] [(eVar 0), (eLit (.int 5))]), (eVar 3)] (eBlt gInt [(eBin gEq (eCall zae [] [(eVar 0), (eLit (.int 4))]) (eLit (.int 0)))]))]))))))))
def zbA : Ru := runOf 6 bo__law_deed
def bd__law_done_1 : Sx := (sSetV 2 (eVar 4) (eVar 5))
def bo__law_done : Sx := (sSeq (sAsg 2 (eBlt gList [(eVar 0)])) (sSeq (sIf (eBin gEq (eBin gIx (eVar 1) (eLit (.int 0))) (eLit (.str "look"))) (sRet (eTup [(eBlt gTuple [(eComp (fSeq (eBin gIx (eVar 1) (eLit (.int 1)))) (tgName 4) [4] eTrue (eBin gIx (eVar 2) (eVar 4)))]), (eVar 0)])) sNil) (sSeq (sIf (eBin gEq (eBin gIx (eVar 1) (eLit (.int 0))) (eLit (.str "put"))) (sSeq (sAsg 3 (eBlt gTuple [(eComp (fSeq (eBin gIx (eVar 1) (eLit (.int 1)))) (tgTup [4, 5]) [4, 5] eTrue (eBin gIx (eVar 2) (eVar 4)))])) (sSeq (sFor (fSeq (eBin gIx (eVar 1) (eLit (.int 1)))) (tgTup [4, 5]) bd__law_done_1) (sRet (eTup [(eVar 3), (eBlt gTuple [(eVar 2)])])))) sNil) (sSeq (sIf (eBin gEq (eBin gIx (eVar 1) (eLit (.int 0))) (eLit (.str "add"))) (sSeq (sSetV 2 (eBin gIx (eVar 1) (eLit (.int 1))) (eBin gMod (eBin gAdd (eBin gIx (eVar 2) (eBin gIx (eVar 1) (eLit (.int 1)))) (eBin gIx (eVar 1) (eLit (.int 2)))) (eLit (.int 1000)))) (sRet (eTup [(eBin gIx (eVar 2) (eBin gIx (eVar 1) (eLit (.int 1)))), (eBlt gTuple [(eVar 2)])]))) sNil) (sSeq (sIf (eOr (eBin gGt (eBin gIx (eVar 1) (eLit (.int 3))) (eBin gIx (eVar 2) (eBin gIx (eVar 1) (eLit (.int 1))))) (eBin gGt (eBin gAdd (eBin gIx (eVar 2) (eBin gIx (eVar 1) (eLit (.int 2)))) (eBin gIx (eVar 1) (eLit (.int 3)))) (eLit (.int 999)))) (sRet (eTup [(eLit (.bl false)), (eVar 0)])) sNil) (sSeq (sSetV 2 (eBin gIx (eVar 1) (eLit (.int 1))) (eBin Ev.gSub (eBin gIx (eVar 2) (eBin gIx (eVar 1) (eLit (.int 1)))) (eBin gIx (eVar 1) (eLit (.int 3))))) (sSeq (sSetV 2 (eBin gIx (eVar 1) (eLit (.int 2))) (eBin gAdd (eBin gIx (eVar 2) (eBin gIx (eVar 1) (eLit (.int 2)))) (eBin gIx (eVar 1) (eLit (.int 3))))) (sRet (eTup [(eLit (.bl true)), (eBlt gTuple [(eVar 2)])])))))))))
def za6 : Ru := runOf 6 bo__law_done
def zbm : Sx := (sSeq (sAsg 10 (eCall zae [] [(eVar 0), (eVar 2)])) (sSeq (sAsg 11 (eCall zbA [] [(eVar 0), (eLit (.int 3))])) (sSeq (sAsg 7 (eBin gAdd (eBin gAdd (eVar 7) (eLit (.int 1))) (eCall zae [] [(eVar 0), (eLit (.int 2))]))) (sSeq (sAsg 12 (eBlt gMax2 [(eBin gAdd (eBin gIx (eVar 5) (eVar 10)) (eLit (.int 1))), (eBin Ev.gSub (eVar 7) (eCall zae [] [(eVar 0), (eLit (.int 6))]))])) (sSeq (sAsg 13 (eVar 6)) (sSeq (sUnp [15, 6] (eCall za6 [] [(eVar 6), (eVar 11)])) (sSeq (sIf (eAnd (eUn gNot (eVar 8)) (eBin gEq (eCall zae [] [(eVar 0), (eLit (.int 2))]) (eLit (.int 0)))) (sAsg 15 (eBin gIx (eCall za6 [] [(eIf (eBin gNe (eBin gIx (eVar 11) (eLit (.int 0))) (eLit (.str "look"))) (eVar 13) (eBin gMul (eTup [(eLit (.int 0))]) (eLit (.int 10)))), (eVar 11)]) (eLit (.int 0)))) sNil) (sSeq (sSetV 5 (eVar 10) (eBlt gMax2 [(eBin gAdd (eVar 12) (eLit (.int 1))), (eBin gAdd (eVar 7) (eCall zae [] [(eVar 0), (eLit (.int 6))]))])) (sSeq (sAsg 14 (eTup [(eBin gAdd (eVar 3) (eVar 10)), (eVar 11), (eVar 12), (eBin gIx (eVar 5) (eVar 10)), (eVar 15)])) (sSeq (sIf (eBin gEq (eCall zae [] [(eVar 0), (eLit (.int 6))]) (eLit (.int 0))) (sSeq (sSetV 5 (eVar 10) (eVar 12)) (sAsg 14 (eTup [(eBin gAdd (eVar 3) (eVar 10)), (eVar 11), (eVar 12), (eLit (.non)), (eLit (.non))]))) sNil) (sAppV 4 (eVar 14))))))))))))
def bo__law_history : Sx := (sSeq (sAsg 2 (eBin gAdd (eLit (.int 1)) (eCall zae [] [(eVar 0), (eLit (.int 3))]))) (sSeq (sAsg 3 (ePick [(eLit (.int 0)), (eLit (.int 0)), (eLit (.int 97))] (eCall zae [] [(eVar 0), (eLit (.int 3))]))) (sSeq (sAsg 4 (eLst [])) (sSeq (sAsg 5 (eBin gMul (eLst [(eLit (.int 0))]) (eVar 2))) (sSeq (sAsg 6 (eBin gMul (eTup [(eLit (.int 0))]) (eLit (.int 10)))) (sSeq (sAsg 7 (eLit (.int 0))) (sSeq (sAsg 8 (eBin gGt (eCall zae [] [(eVar 0), (eLit (.int 3))]) (eLit (.int 0)))) (sSeq (sFor (fRange (eCall zae [] [(eVar 0), (eBin gAdd (eVar 1) (eLit (.int 1)))])) (tgName 9) zbm) (sRetVar 4)))))))))
def zaJ : Ru := runOf 16 bo__law_history
def zbP : Sx := (sRet (eAnd (eIsi .int (eVar 0)) (eAnd (eUn gNot (eIsi .bool (eVar 0))) (eChain gLe gLt (eLit (.int 0)) (eVar 0) (eVar 1)))))
def zaj : Ru := runOf 2 zbP
def zbB : Sx := (sSeq (sIf (eBin gEq (eBin gIx (eVar 0) (eLit (.int 0))) (eLit (.str "move"))) (sRet (eIsi .bool (eVar 1))) sNil) (sSeq (sIf (eBin gEq (eBin gIx (eVar 0) (eLit (.int 0))) (eLit (.str "add"))) (sRet (eCall zaj [] [(eVar 1), (eLit (.int 1000))])) sNil) (sSeq (sIf (eOr (eUn gNot (eIsi .tuple (eVar 1))) (eBin gNe (eBlt gLen [(eVar 1)]) (eBlt gLen [(eBin gIx (eVar 0) (eLit (.int 1)))]))) (sRet (eLit (.bl false))) sNil) (sRet (eBin gEq (eComp (fVar 1) (tgName 2) [2] (eUn gNot (eCall zaj [] [(eVar 2), (eLit (.int 1000))])) (eVar 2)) (eLst []))))))
def zaI : Ru := runOf 3 zbB
def zbe : Sx := (sSeq (sIf (eOr (eUn gNot (eIsi .tuple (eVar 0))) (eUn gNot (eChain gLe gLe (eLit (.int 1)) (eBlt gLen [(eVar 0)]) (eLit (.int 4))))) (sRet (eLit (.bl false))) sNil) (sSeq (sIf (eBin gNe (eComp (fVar 0) (tgName 1) [1] (eUn gNot (eCall zaj [] [(eVar 1), (eLit (.int 10))])) (eVar 1)) (eLst [])) (sRet (eLit (.bl false))) sNil) (sRet (eBin gEq (eBlt gList [(eVar 0)]) (eSortedSet (eVar 0))))))
def zaw : Ru := runOf 2 zbe
def zbn : Sx := (sSeq (sIf (eOr (eUn gNot (eIsi .tuple (eVar 0))) (eBin gNe (eComp (fVar 0) (tgName 1) [1] (eOr (eUn gNot (eIsi .tuple (eVar 1))) (eBin gNe (eBlt gLen [(eVar 1)]) (eLit (.int 2)))) (eVar 1)) (eLst []))) (sRet (eLit (.bl false))) sNil) (sSeq (sIf (eBin gNe (eComp (fVar 0) (tgName 1) [1] (eUn gNot (eCall zaj [] [(eBin gIx (eVar 1) (eLit (.int 1))), (eLit (.int 1000))])) (eVar 1)) (eLst [])) (sRet (eLit (.bl false))) sNil) (sRet (eCall zaw [] [(eBlt gTuple [(eComp (fVar 0) (tgName 1) [1] eTrue (eBin gIx (eVar 1) (eLit (.int 0))))])]))))
def zaK : Ru := runOf 2 zbn
def bo_is_deed : Sx := (sSeq (sIf (eOr (eUn gNot (eIsi .tuple (eVar 0))) (eBin gEq (eVar 0) (eTup []))) (sRet (eLit (.bl false))) sNil) (sSeq (sIf (eBin gEq (eBin gIx (eVar 0) (eLit (.int 0))) (eLit (.str "look"))) (sRet (eAnd (eBin gEq (eBlt gLen [(eVar 0)]) (eLit (.int 2))) (eCall zaw [] [(eBin gIx (eVar 0) (eLit (.int 1)))]))) sNil) (sSeq (sIf (eBin gIn (eBin gIx (eVar 0) (eLit (.int 0))) (eTup [(eLit (.str "put")), (eLit (.str "draft"))])) (sRet (eAnd (eBin gEq (eBlt gLen [(eVar 0)]) (eLit (.int 2))) (eCall zaK [] [(eBin gIx (eVar 0) (eLit (.int 1)))]))) sNil) (sSeq (sIf (eBin gIn (eBin gIx (eVar 0) (eLit (.int 0))) (eTup [(eLit (.str "add")), (eLit (.str "wait"))])) (sRet (eAnd (eBin gEq (eBlt gLen [(eVar 0)]) (eLit (.int 3))) (eAnd (eCall zaj [] [(eBin gIx (eVar 0) (eLit (.int 1))), (eLit (.int 10))]) (eCall zaj [] [(eBin gIx (eVar 0) (eLit (.int 2))), (eLit (.int 1000))])))) sNil) (sSeq (sIf (eBin gEq (eBin gIx (eVar 0) (eLit (.int 0))) (eLit (.str "save"))) (sRet (eBin gEq (eBlt gLen [(eVar 0)]) (eLit (.int 1)))) sNil) (sSeq (sIf (eOr (eBin gNe (eBin gIx (eVar 0) (eLit (.int 0))) (eLit (.str "move"))) (eOr (eBin gNe (eBlt gLen [(eVar 0)]) (eLit (.int 4))) (eOr (eUn gNot (eCall zaj [] [(eBin gIx (eVar 0) (eLit (.int 1))), (eLit (.int 10))])) (eUn gNot (eCall zaj [] [(eBin gIx (eVar 0) (eLit (.int 2))), (eLit (.int 10))]))))) (sRet (eLit (.bl false))) sNil) (sRet (eAnd (eBin gNe (eBin gIx (eVar 0) (eLit (.int 1))) (eBin gIx (eVar 0) (eLit (.int 2)))) (eCall zaj [] [(eBin gIx (eVar 0) (eLit (.int 3))), (eLit (.int 1000))])))))))))
def zaR : Ru := runOf 1 bo_is_deed
def bo_is_plain : Sx := (sRet (eAnd (eCall zaR [] [(eVar 0)]) (eBin gIn (eBin gIx (eVar 0) (eLit (.int 0))) (eCst [.str "look", .str "put", .str "add", .str "move"]))))
def zbr : Ru := runOf 1 bo_is_plain
def bo_is_row : Sx := (sSeq (sIf (eOr (eUn gNot (eIsi .tuple (eVar 0))) (eOr (eBin gNe (eBlt gLen [(eVar 0)]) (eLit (.int 5))) (eUn gNot (eCall zbr [] [(eBin gIx (eVar 0) (eLit (.int 1)))])))) (sRet (eLit (.bl false))) sNil) (sSeq (sUnp [1, 2, 3, 4, 5] (eVar 0)) (sSeq (sIf (eOr (eUn gNot (eCall zaj [] [(eVar 1), (eLit (.int 100))])) (eUn gNot (eCall zaj [] [(eVar 3), (eLit (.int 10000))]))) (sRet (eLit (.bl false))) sNil) (sSeq (sIf (eUn gIsN (eVar 4)) (sRet (eUn gIsN (eVar 5))) sNil) (sRet (eAnd (eCall zaj [] [(eVar 4), (eLit (.int 10000))]) (eAnd (eBin gLt (eVar 3) (eVar 4)) (eCall zaI [] [(eVar 2), (eVar 5)]))))))))
def zaV : Ru := runOf 6 bo_is_row
def zaX : Sx := (sSeq (sIf (eOr (eBin gGe (eVar 2) (eLit (.int 12))) (eUn gNot (eCall zaV [] [(eVar 3)]))) sFail sNil) (sSeq (sIf (eAnd (eBin gIn (eBin gIx (eVar 3) (eLit (.int 0))) (eVar 1)) (eBin gGe (eBin gIx (eVar 1) (eBin gIx (eVar 3) (eLit (.int 0)))) (eBin gIx (eVar 3) (eLit (.int 2))))) sFail sNil) (sSetV 1 (eBin gIx (eVar 3) (eLit (.int 0))) (eIf (eUn gIsN (eBin gIx (eVar 3) (eLit (.int 3)))) (eBin gIx (eVar 3) (eLit (.int 2))) (eBin gIx (eVar 3) (eLit (.int 3)))))))
def bo_need_history : Sx := (sSeq (sAsg 1 (eDNew .K)) (sFor (fEnumV 0) (tgTup [2, 3]) zaX))
def zaE : Ru := runOf 4 bo_need_history
def bo_may_be_next : Sx := (sSeq (sAsg 2 (eComp (fVar 1) (tgName 3) [3] (eUn gNotN (eBin gIx (eBin gIx (eVar 0) (eVar 3)) (eLit (.int 3)))) (eBin gIx (eBin gIx (eVar 0) (eVar 3)) (eLit (.int 3))))) (sRet (eComp (fVar 1) (tgName 3) [3] (eBin gEq (eComp (fVar 2) (tgName 4) [4] (eBin gLt (eVar 4) (eBin gIx (eBin gIx (eVar 0) (eVar 3)) (eLit (.int 2)))) (eVar 4)) (eLst [])) (eVar 3))))
def zbg : Ru := runOf 5 bo_may_be_next
def bd_done_1 : Sx := (sSetV 2 (eVar 7) (eVar 8))
def bo_done : Sx := (sSeq (sAsg 2 (eBlt gList [(eVar 0)])) (sSeq (sIf (eBin gEq (eBin gIx (eVar 1) (eLit (.int 0))) (eLit (.str "look"))) (sRet (eTup [(eBlt gTuple [(eComp (fSeq (eBin gIx (eVar 1) (eLit (.int 1)))) (tgName 7) [7] eTrue (eBin gIx (eVar 0) (eVar 7)))]), (eVar 0)])) sNil) (sSeq (sIf (eBin gIn (eBin gIx (eVar 1) (eLit (.int 0))) (eTup [(eLit (.str "put")), (eLit (.str "draft"))])) (sSeq (sFor (fSeq (eBin gIx (eVar 1) (eLit (.int 1)))) (tgTup [7, 8]) bd_done_1) (sRet (eTup [(eBlt gTuple [(eComp (fSeq (eBin gIx (eVar 1) (eLit (.int 1)))) (tgTup [7, 8]) [7, 8] eTrue (eBin gIx (eVar 0) (eVar 7)))]), (eBlt gTuple [(eVar 2)])]))) sNil) (sSeq (sIf (eBin gEq (eBin gIx (eVar 1) (eLit (.int 0))) (eLit (.str "add"))) (sSeq (sSetV 2 (eBin gIx (eVar 1) (eLit (.int 1))) (eBin gMod (eBin gAdd (eBin gIx (eVar 0) (eBin gIx (eVar 1) (eLit (.int 1)))) (eBin gIx (eVar 1) (eLit (.int 2)))) (eLit (.int 1000)))) (sRet (eTup [(eBin gIx (eVar 2) (eBin gIx (eVar 1) (eLit (.int 1)))), (eBlt gTuple [(eVar 2)])]))) sNil) (sSeq (sUnp [3, 4, 5, 6] (eVar 1)) (sSeq (sIf (eOr (eBin gLt (eBin gIx (eVar 0) (eVar 4)) (eVar 6)) (eBin gGe (eBin gAdd (eBin gIx (eVar 0) (eVar 5)) (eVar 6)) (eLit (.int 1000)))) (sRet (eTup [(eLit (.bl false)), (eVar 0)])) sNil) (sSeq (sSetV 2 (eVar 4) (eBin Ev.gSub (eBin gIx (eVar 0) (eVar 4)) (eVar 6))) (sSeq (sSetV 2 (eVar 5) (eBin gAdd (eBin gIx (eVar 0) (eVar 5)) (eVar 6))) (sRet (eTup [(eLit (.bl true)), (eBlt gTuple [(eVar 2)])]))))))))))
def ev_done : Ru := runOf 9 bo_done
def bo_like : Sx := (sRet (eAnd (eBin gEq (eVar 0) (eVar 1)) (eBin gEq (eIsi .bool (eVar 0)) (eIsi .bool (eVar 1)))))
def ev_like : Ru := runOf 2 bo_like
def bd_order_of_1 (run : Ru) : Sx := (sSeq (sUnp [5, 6] (eCall ev_done [] [(eVar 2), (eBin gIx (eBin gIx (eVar 0) (eVar 4)) (eLit (.int 1)))])) (sIf (eOr (eUn gIsN (eBin gIx (eBin gIx (eVar 0) (eVar 4)) (eLit (.int 3)))) (eCall ev_like [] [(eBin gIx (eBin gIx (eVar 0) (eVar 4)) (eLit (.int 4))), (eVar 5)])) (sSeq (sAsg 7 (eBlt gTuple [(eComp (fVar 1) (tgName 9) [9] (eBin gNe (eVar 9) (eVar 4)) (eVar 9))])) (sSeq (sAsg 8 (eCall run [] [(eVar 0), (eVar 7), (eVar 6), (eVar 3)])) (sIf (eUn gNotN (eVar 8)) (sRet (eBin gAdd (eLst [(eVar 4)]) (eVar 8))) sNil))) sNil))
def bo_order_of (run : Ru) : Sx := (sSeq (sIf (eBin gEq (eComp (fVar 1) (tgName 4) [4] (eUn gNotN (eBin gIx (eBin gIx (eVar 0) (eVar 4)) (eLit (.int 3)))) (eVar 4)) (eLst [])) (sRet (eLst [])) sNil) (sSeq (sIf (eBin gIn (eTup [(eVar 1), (eVar 2)]) (eVar 3)) (sRet (eLit (.non))) sNil) (sSeq (sFor (fSeq (eCall zbg [] [(eVar 0), (eVar 1)])) (tgName 4) (bd_order_of_1 run)) (sSeq (sSet (eVar 3) (eTup [(eVar 1), (eVar 2)]) (eLit (.bl true))) (sRet (eLit (.non)))))))
def zbq : Nat → Ru
  | 0 => fun _ _ => none
  | n + 1 => runOf 10 (bo_order_of (zbq n))
def bo_judged : Sx := (sSeq (sExpr (eCall zaE [] [(eVar 0)])) (sRet (eCall (zbq 40) [] [(eVar 0), (eTupRg (eBlt gLen [(eVar 0)])), (eBin gMul (eTup [(eLit (.int 0))]) (eLit (.int 10))), (eBox (eDNew .N))])))
def ev_judged : Ru := runOf 1 bo_judged
def bo_word_of : Sx := (sSeq (sIf (eUn gIsN (eVar 0)) (sRet (eLit (.str "-"))) sNil) (sSeq (sIf (eIsi .bool (eVar 0)) (sRet (eIf (eVar 0) (eLit (.str "yes")) (eLit (.str "no")))) sNil) (sSeq (sIf (eIsi .tuple (eVar 0)) (sRet (eJoin (eLit (.str ",")) (eComp (fVar 0) (tgName 1) [1] eTrue (eIf (eIsi .tuple (eVar 1)) (eJoin (eLit (.str ":")) (eComp (fVar 1) (tgName 2) [2] eTrue (eBlt gStr [(eVar 2)]))) (eBlt gStr [(eVar 1)]))))) sNil) (sRet (eBlt gStr [(eVar 0)])))))
def zax : Ru := runOf 3 bo_word_of
def bo_words_of : Sx := (sSeq (sUnp [1, 2, 3, 4, 5] (eVar 0)) (sRet (eBin gAdd (eBin gAdd (eLst [(eBlt gStr [(eVar 1)]), (eBlt gStr [(eVar 3)]), (eCall zax [] [(eVar 4)]), (eBin gIx (eVar 2) (eLit (.int 0)))]) (eComp (fSeq (eSlice (eVar 2) (some (eLit (.int 1))) none)) (tgName 6) [6] eTrue (eCall zax [] [(eVar 6)]))) (eLst [(eCall zax [] [(eVar 5)])]))))
def zbf : Ru := runOf 7 bo_words_of
def bo_written : Sx := (sSeq (sExpr (eCall zaE [] [(eVar 0)])) (sRet (eJoin (eLit (.str "\n")) (eComp (fVar 0) (tgName 1) [1] eTrue (eJoin (eLit (.str " ")) (eCall zbf [] [(eVar 1)]))))))
def zbR : Ru := runOf 2 bo_written
def za7 : Sx := (sSetV 3 (eBin gIx (eVar 4) (eLit (.int 0))) (eIf (eUn gIsN (eBin gIx (eVar 4) (eLit (.int 3)))) (eBin gIx (eVar 4) (eLit (.int 2))) (eBin gIx (eVar 4) (eLit (.int 3)))))
def zbJ : Sx := (sAsg 5 (eBin gAdd (eVar 5) (eLst [(eTup [(eVar 7), (eTup [(eLit (.str "add")), (eLit (.int 5)), (eLit (.int 1))]), (eLit (.int 900)), (eLit (.int 901)), (eLit (.int 5))]), (eTup [(eVar 7), (eTup [(eLit (.str "add")), (eLit (.int 5)), (eLit (.int 1))]), (eLit (.int 900)), (eLit (.non)), (eLit (.non))])])))
def zbI : Sx := (sAppV 5 (eTup [(eLit (.int 1)), (eTup [(eLit (.str "add")), (eLit (.int 5)), (eLit (.int 1))]), (eVar 9), (eVar 10), (eIf (eUn gNotN (eVar 10)) (eLit (.int 5)) (eLit (.non)))]))
def zbH : Sx := (sAppV 5 (eTup [(eLit (.int 1)), (eTup [(eLit (.str "add")), (eLit (.int 5)), (eLit (.int 1))]), (eLit (.int 900)), (eLit (.int 901)), (eVar 8)]))
def zbG : Sx := (sAsg 5 (eBin gAdd (eVar 5) (eLst [(eTup [(eLit (.int 1)), (eTup [(eLit (.str "look")), (eTup [(eLit (.int 4)), (eLit (.int 5))])]), (eLit (.int 900)), (eLit (.int 901)), (eVar 8)]), (eTup [(eLit (.int 1)), (eTup [(eLit (.str "put")), (eTup [(eTup [(eLit (.int 4)), (eLit (.int 1))]), (eTup [(eLit (.int 5)), (eLit (.int 2))])])]), (eLit (.int 900)), (eLit (.int 901)), (eVar 8)])])))
def zbF : Sx := (sAppV 5 (eTup [(eLit (.int 1)), (eTup [(eLit (.str "move")), (eLit (.int 4)), (eLit (.int 5)), (eLit (.int 1))]), (eLit (.int 900)), (eLit (.int 901)), (eVar 8)]))
def zbE : Sx := (sSeq (sAppV 5 (eTup [(eVar 7), (eTup [(eLit (.str "add")), (eLit (.int 5)), (eLit (.int 1))]), (eBin gIx (eVar 3) (eVar 7)), (eLit (.int 999)), (eLit (.int 0))])) (sAppV 5 (eTup [(eVar 7), (eTup [(eLit (.str "look")), (eTup [(eLit (.int 5))])]), (eBlt gMax2 [(eLit (.int 0)), (eBin Ev.gSub (eBin gIx (eVar 3) (eVar 7)) (eLit (.int 1)))]), (eLit (.non)), (eLit (.non))])))
def bo__law_bad_row : Sx := (sSeq (sAsg 3 (eDNew .K)) (sSeq (sFor (fSeq (eSlice (eVar 1) none (some (eVar 2)))) (tgName 4) za7) (sSeq (sAsg 5 (eLst [(eTup []), (eTup [(eLit (.int 1)), (eTup [(eLit (.str "add")), (eLit (.int 5)), (eLit (.int 1))]), (eLit (.int 900)), (eLit (.int 901))]), (eTup [(eLit (.int 1)), (eTup [(eLit (.str "add")), (eLit (.int 10)), (eLit (.int 1))]), (eLit (.int 900)), (eLit (.int 901)), (eLit (.int 5))]), (eTup [(eLit (.int 1)), (eTup [(eLit (.str "split")), (eLit (.int 5))]), (eLit (.int 900)), (eLit (.int 901)), (eLit (.int 5))])])) (sSeq (sAsg 5 (eBin gAdd (eVar 5) (eLst [(eTup [(eLit (.int 1)), (eTup [(eLit (.str "add")), (eLit (.int 5)), (eLit (.int 1))]), (eLit (.int 900)), (eLit (.int 900)), (eLit (.int 5))]), (eTup [(eLit (.int 1)), (eTup [(eLit (.str "add")), (eLit (.int 5)), (eLit (.int 1))]), (eLit (.int 901)), (eLit (.int 900)), (eLit (.int 5))]), (eTup [(eLit (.int 1)), (eTup [(eLit (.str "add")), (eLit (.int 5)), (eLit (.int 1))]), (eLit (.int 900)), (eLit (.non)), (eLit (.int 5))])]))) (sSeq (sAsg 5 (eBin gAdd (eVar 5) (eLst [(eTup [(eLit (.int 1)), (eTup [(eLit (.str "look")), (eTup [(eLit (.int 5))])]), (eLit (.int 900)), (eLit (.int 901)), (eLit (.non))]), (eTup [(eLit (.int 1)), (eTup [(eLit (.str "look")), (eTup [])]), (eLit (.int 900)), (eLit (.non)), (eLit (.non))]), (eTup [(eLit (.int 1)), (eTup []), (eLit (.int 900)), (eLit (.int 901)), (eLit (.int 5))])]))) (sSeq (sAsg 6 (eBlt gMax2 [(eLit (.int 0)), (eBin Ev.gSub (eCall zae [] [(eVar 0), (eBin gPow (eLit (.int 10)) (eLit (.int 6)))]) (eLit (.int 500000)))])) (sSeq (sFor (fSeq (eLst [(eBin Ev.gSub (eUn gNeg (eLit (.int 1))) (eVar 6)), (eBin gAdd (eLit (.int 100)) (eVar 6)), (eLit (.int 100)), (eLit (.int 9999)), (eLit (.bl true)), (eLit (.non)), (eLit (.str "1")), (eTup [(eLit (.int 1))])])) (tgName 7) zbJ) (sSeq (sFor (fSeq (eLst [(eTup [(eUn gNeg (eLit (.int 1))), (eLit (.int 901))]), (eTup [(eBin Ev.gSub (eUn gNeg (eLit (.int 1))) (eVar 6)), (eLit (.non))]), (eTup [(eLit (.int 900)), (eBin gAdd (eLit (.int 10000)) (eVar 6))]), (eTup [(eBin gAdd (eLit (.int 10000)) (eVar 6)), (eLit (.non))]), (eTup [(eLit (.bl true)), (eLit (.int 901))]), (eTup [(eLit (.non)), (eLit (.int 901))])])) (tgTup [9, 10]) zbI) (sSeq (sFor (fSeq (eLst [(eLit (.bl true)), (eBin gAdd (eLit (.int 1000)) (eVar 6)), (eUn gNeg (eLit (.int 1))), (eTup [(eLit (.int 5))]), (eLit (.str "5")), (eLit (.non))])) (tgName 8) zbH) (sSeq (sFor (fSeq (eLst [(eLit (.int 5)), (eLit (.bl true)), (eTup []), (eTup [(eLit (.int 1)), (eLit (.int 2)), (eLit (.int 3))]), (eTup [(eLit (.int 1)), (eLit (.int 1000))]), (eTup [(eLit (.int 1)), (eBin Ev.gSub (eUn gNeg (eLit (.int 1))) (eVar 6))]), (eTup [(eLit (.int 1)), (eLit (.bl true))]), (eTup [(eLit (.int 1)), (eLit (.non))])])) (tgName 8) zbG) (sSeq (sFor (fSeq (eLst [(eLit (.int 0)), (eLit (.int 1)), (eTup [(eLit (.bl true))]), (eLit (.str "yes"))])) (tgName 8) zbF) (sSeq (sFor (fSeq (eBlt gSortedD [(eVar 3)])) (tgName 7) zbE) (sRet (eBin gIx (eVar 5) (eCall zae [] [(eVar 0), (eBlt gLen [(eVar 5)])])))))))))))))))
def zaO : Ru := runOf 11 bo__law_bad_row
def bo__law_alike (run : Ru) : Sx := (sSeq (sIf (eUn gIsN (eVar 1)) (sRet (eUn gIsN (eVar 0))) sNil) (sSeq (sIf (eIsi .bool (eVar 1)) (sRet (eAnd (eIsi .bool (eVar 0)) (eBin gEq (eVar 0) (eVar 1)))) sNil) (sSeq (sIf (eIsi .int (eVar 1)) (sRet (eAnd (eIsi .int (eVar 0)) (eAnd (eUn gNot (eIsi .bool (eVar 0))) (eBin gEq (eVar 0) (eVar 1))))) sNil) (sSeq (sIf (eIsi .str (eVar 1)) (sRet (eAnd (eIsi .str (eVar 0)) (eBin gEq (eVar 0) (eVar 1)))) sNil) (sSeq (sIf (eOr (eBin gNe (eIsi .tuple (eVar 1)) (eIsi .tuple (eVar 0))) (eBin gNe (eIsi .list (eVar 1)) (eIsi .list (eVar 0)))) (sRet (eLit (.bl false))) sNil) (sSeq (sIf (eBin gNe (eBlt gLen [(eVar 0)]) (eBlt gLen [(eVar 1)])) (sRet (eLit (.bl false))) sNil) (sRet (eBlt gAll [(eComp (fRange (eBlt gLen [(eVar 1)])) (tgName 2) [2] eTrue (eCall run [] [(eBin gIx (eVar 0) (eVar 2)), (eBin gIx (eVar 1) (eVar 2))]))]))))))))
def ev__law_alike : Nat → Ru
  | 0 => fun _ _ => none
  | n + 1 => runOf 3 (bo__law_alike (ev__law_alike n))
def bo_law_a : Sx := (sAsg 1 (eBox (eCall zaT [] [(eVar 0), (eLit (.int 0))])))
def bo_law_1 : Sx := (sSeq (sAsg 3 (eCall zaJ [] [(eVar 1), (eLit (.int 11))])) (sSeq (sAsg 4 (eCall zae [] [(eVar 1), (eBin gAdd (eBlt gLen [(eVar 3)]) (eLit (.int 1)))])) (sAsg 5 (eBin gAdd (eBin gAdd (eBin gAdd (eSlice (eVar 3) none (some (eVar 4))) (eLst [(eCall zaO [] [(eVar 1), (eVar 3), (eVar 4)])])) (eSlice (eVar 3) (some (eVar 4)) none)) (eBin gMul (eLst [(eTup [])]) (eCall zae [] [(eVar 1), (eLit (.int 2))]))))))
def bo_law_2 : Sx := (sAsg 7 (eComp (fRange (eBin gAdd (eLit (.int 13)) (eCall zae [] [(eVar 1), (eLit (.int 3))]))) (tgName 8) [8] eTrue (eTup [(eLit (.int 2)), (eTup [(eLit (.str "look")), (eTup [(eLit (.int 7))])]), (eBin gMul (eLit (.int 2)) (eVar 8)), (eBin gAdd (eBin gMul (eLit (.int 2)) (eVar 8)) (eLit (.int 1))), (eTup [(eLit (.int 0))])])))
def bo_law_3 : Sx := (sIf (eOr (eUn gNot (eIsi .str (eCall zbR [] [(eVar 3)]))) (eUn gIsN (eCall ev_judged [] [(eSlice (eVar 7) none (some (eLit (.int 12))))]))) (sRet (eLit (.bl false))) sNil)
def zaQ : Sy := (ySeq (yIf (eOr (eBin gGe (eVar 2) (eLit (.int 12))) (eUn gNot (eCall zaV [] [(eVar 3)]))) (yRaise 5 2) (yLift sNil)) (ySeq (yIf (eAnd (eBin gIn (eBin gIx (eVar 3) (eLit (.int 0))) (eVar 1)) (eBin gGe (eBin gIx (eVar 1) (eBin gIx (eVar 3) (eLit (.int 0)))) (eBin gIx (eVar 3) (eLit (.int 2))))) (yRaise 5 2) (yLift sNil)) (yLift (sSetV 1 (eBin gIx (eVar 3) (eLit (.int 0))) (eIf (eUn gIsN (eBin gIx (eVar 3) (eLit (.int 3)))) (eBin gIx (eVar 3) (eLit (.int 2))) (eBin gIx (eVar 3) (eLit (.int 3))))))))
def zbs : Sy := (ySeq (yLift (sAsg 1 (eDNew .K))) (yFor (fEnumV 0) (tgTup [2, 3]) zaQ))
def zaC : RuY := runY 4 zbs
def boY_judged : Sy := (yFst (yExpr (yCallE zaC [(eVar 0)])))
def za1 : RuY := runY 1 boY_judged
def boY_written : Sy := (yFst (yExpr (yCallE zaC [(eVar 0)])))
def zaP : RuY := runY 2 boY_written
def gy1 : Env → Store → Option (Nat × Option Int × Store) := (yCallE za1 [(eVar 0)])
def gy2 : Env → Store → Option (Nat × Option Int × Store) := (yCallE zaP [(eVar 1)])
def gy3 : Env → Store → Option (Nat × Option Int × Store) := (yCallE za1 [(eVar 0)])
def gy4 : Env → Store → Option (Nat × Option Int × Store) := (yCallE zaP [(eVar 1)])
end Ev
namespace Ev
open PySem PySem.Spec PyProof.Rows L2
def top (i : Nat) : Stmt := PySem.Challenge.pw_lentfiles_k03_histories_refused.main.body.getD i (.Pass ⟨0, 0, 0, 0⟩)
def mth (i j : Nat) : Stmt := match top i with
  | .ClassDef _ _ _ b _ _ _ _ _ _ _ => b.getD j (.Pass ⟨0, 0, 0, 0⟩)
  | s => s
def hFN : List Str := []
abbrev Wv (P : Program) (w : World) (K : PySem.W.Frag) (CA : Nat → Addr) : Wd := ⟨P, w, K, CA, hFN⟩
structure Fx (K : PySem.W.Frag) (mg : Str → Option Value) : Prop where
  b_ValueError : mg "ValueError" = none
  b_abs : mg "abs" = none
  b_all : mg "all" = none
  b_bool : mg "bool" = none
  b_enumerate : mg "enumerate" = none
  b_int : mg "int" = none
  b_isinstance : mg "isinstance" = none
  b_len : mg "len" = none
  b_list : mg "list" = none
  b_max : mg "max" = none
  b_min : mg "min" = none
  b_range : mg "range" = none
  b_set : mg "set" = none
  b_sorted : mg "sorted" = none
  b_str : mg "str" = none
  b_tuple : mg "tuple" = none
  c_FILES : ∃ t, mg "FILES" = some (.int 10 t)
  c_MOMENTS : ∃ t, mg "MOMENTS" = some (.int 10000 t)
  c_MOST_FILES : ∃ t, mg "MOST_FILES" = some (.int 4 t)
  c_MOST_ROWS : ∃ t, mg "MOST_ROWS" = some (.int 12 t)
  c_NONE : ∃ t, mg "NONE" = some (.str "-" t)
  c_PLAIN : WrT K mg "PLAIN" [.str "look", .str "put", .str "add", .str "move"]
  c_USERS : ∃ t, mg "USERS" = some (.int 100 t)
  c_WORTHS : ∃ t, mg "WORTHS" = some (.int 1000 t)
section
variable {P : Program} {w : World} {K : PySem.W.Frag} {mg : Str → Option Value} {base : Heap} {CA : Nat → Addr}
abbrev st__law_dice : Stmt := top 37
theorem sc__law_dice : FnScope ["_law_script", "_law_k", "_law_found", "_law_cell"] ["_law_script", "_law_k"] (defScope st__law_dice) := ⟨rfl, rfl, rfl, by decide +kernel, rfl, by decide +kernel, by decide +kernel⟩
def t__law_dice (P : Program) (w : World) (K : PySem.W.Frag) (CA : Nat → Addr) : TS := (tSeq (tAsg (tVar 1) (gName 2)) (tSeq (tFor (iSeq K (tVar 0)) (gName 3) (tAsg (tOp rModI (tOp (rAddA K) (tOp (rMulA K) (tVar 2) (tC (.int 31))) (tCB rAbsI (tCons (tVar 3) tNil))) (tC (.int 2147483647))) (gName 2))) (tRet (tOp (rAddA K) (tLst (tCons (tVar 2) (tCons (tC (.int 0)) tNil))) (tLc (iSeq K (tVar 0)) (gName 3) (tTest (tOp rGeI (tVar 3) (tOp rPowI (tC (.int 10)) (tC (.int 18))))) (tVar 3) [3])))))
theorem sim__law_dice : SimS (Wv P w K CA) (t__law_dice P w K CA) (bo__law_dice) := (zaf (zar zab) (zaf (zbD zbp tg_name (zar (zag (zag (zag zab zad sim_mul) (zas (zaa zab zac) sim_abs) zaz) zad sim_mod))) (zao (zag (zaH (zaa zab (zaa zad zac))) (zaN (js := [3]) (vs := [3]) zbp zaF (by decide) (zan (zag zab (zag zad zad sim_pow) sim_ge)) zab) zaz))))
theorem ok__law_dice (T : Fx K mg) {f : Addr} {fd : FuncData} (F : FnP K "_law_dice" "_law_dice" st__law_dice [] f fd)   : FnOk P w K mg base CX0 1 f fd ["_law_script", "_law_k"] (spOf (Wv P w K CA) 2 zaT) := by
  have sc := sc__law_dice
  refine fn_ok F sc fun cdv A outer s H E hr => ⟨t__law_dice P w K CA, ?_, sim__law_dice⟩
  exact (pss_cons (ps_set (i := 2) sc.nd rfl (by first | exact .inl rfl | exact .inr rfl) (pv 1)) (pss_cons (ps_for PassesOwn.never rfl (zba (pv 0)) (pg_name (i := 3) sc.nd rfl (by first | exact .inl rfl | exact .inr rfl)) (pss_one (ps_set (i := 2) sc.nd rfl (by first | exact .inl rfl | exact .inr rfl) (pe_op op_mod (pe_op zaA (pe_op op_mulA (pv 2) pe_int) (pe_callB call_abs (by rfl) T.b_abs bb_abs (pa_cons (pv 3) pa_nil))) pe_int)))) (pss_one (ps_ret (pe_op zaA (pe_lst (pa_cons (pv 2) (pa_cons pe_int pa_nil))) (pe_lc (own := [("_law_cell", 3)]) rfl sc.nd (zba (pv 0)) (blkOk_by (by kernel_rfl)) (fun _ _ _ _ _ => (pg_name (i := 3) sc.nd rfl (by first | exact .inl rfl | exact .inr rfl))) (fun _ _ _ _ _ => (pts_one (pt_cmpR op_ge (pv 3) (pe_op op_pow pe_int pe_int) (nomark _)))) (fun _ _ _ _ _ => (pv 3))))))))
abbrev st__law_off : Stmt := top 38
theorem sc__law_off : FnScope ["_law_d", "_law_most", "_law_found"] ["_law_d", "_law_most"] (defScope st__law_off) := ⟨rfl, rfl, rfl, by decide +kernel, rfl, by decide +kernel, by decide +kernel⟩
def t__law_off (P : Program) (w : World) (K : PySem.W.Frag) (CA : Nat → Addr) : TS := (tSeq (tIfS (tAnd (tTest (tOp (rEqD K) (tIxA K (tVar 0) (tC (.int 1))) (tC (.int 0)))) (tTest (tOp rGtI (tCB (rLenA K) (tCons (tVar 0) tNil)) (tC (.int 2))))) (tSet (tVar 0) (tC (.int 1)) (tBM K "list" rPopAt (tVar 0) (tCons (tC (.int 2)) tNil))) tNext) (tSeq (tIfS (tTest (tOp rGtI (tIxA K (tVar 0) (tC (.int 1))) (tC (.int 0)))) (tSeq (tAsg (tOp rModI (tIxA K (tVar 0) (tC (.int 1))) (tVar 1)) (gName 2)) (tSeq (tSet (tVar 0) (tC (.int 1)) (tOp rDivI (tIxA K (tVar 0) (tC (.int 1))) (tVar 1))) (tRet (tVar 2)))) tNext) (tSeq (tSet (tVar 0) (tC (.int 0)) (tOp rModI (tOp (rAddA K) (tOp (rMulA K) (tIxA K (tVar 0) (tC (.int 0))) (tC (.int 48271))) (tC (.int 11))) (tC (.int 2147483647)))) (tRet (tOp rModI (tOp rDivI (tIxA K (tVar 0) (tC (.int 0))) (tC (.int 64))) (tVar 1))))))
theorem sim__law_off : SimS (Wv P w K CA) (t__law_off P w K CA) (bo__law_off) := (zaf (zau (simT_and (zan (zag (zam zab zad) zad za5)) (zan (zag (zas (zaa zab zac) zbv) zad sim_gt))) (simS_set zab zad (sim_lpop zab zad)) zap) (zaf (zau (zan (zag (zam zab zad) zad sim_gt)) (zaf (zar (zag (zam zab zad) zab sim_mod)) (zaf (simS_set zab zad (zag (zam zab zad) zab sim_fdiv)) simS_retVar)) zap) (zaf (simS_set zab zad (zag (zag (zag (zam zab zad) zad sim_mul) zad zaz) zad sim_mod)) (zao (zag (zag (zam zab zad) zad sim_fdiv) zab sim_mod)))))
theorem ok__law_off (T : Fx K mg) {f : Addr} {fd : FuncData} (F : FnP K "_law_off" "_law_off" st__law_off [] f fd)   : FnOk P w K mg base CX0 1 f fd ["_law_d", "_law_most"] (spOf (Wv P w K CA) 2 zae) := by
  have sc := sc__law_off
  refine fn_ok F sc fun cdv A outer s H E hr => ⟨t__law_off P w K CA, ?_, sim__law_off⟩
  exact (pss_cons (ps_if (PW.pt (pw_and (pt_cmpR (op_eqD hr.units) (zak (hu_of hr) (pv 0) pe_int (fun _ _ => rfl)) pe_int (nomark _)) (pw_and1 (pt_cmpR op_gt (pe_callB zaW (by rfl) T.b_len bb_len (pa_cons (pv 0) pa_nil)) pe_int (nomark _))))) (pss_one (zbz (u16 hr) (pv 0) pe_int (pe_bm PySem.F.plainAttrs_list PySem.F.slot_list_pop PySem.F.type_list_pop mt_popAt (pv 0) (pa_cons pe_int pa_nil)))) pss_nil) (pss_cons (ps_if (pt_cmpR op_gt (zak (hu_of hr) (pv 0) pe_int (fun _ _ => rfl)) pe_int (nomark _)) (pss_cons (ps_set (i := 2) sc.nd rfl (by first | exact .inl rfl | exact .inr rfl) (pe_op op_mod (zak (hu_of hr) (pv 0) pe_int (fun _ _ => rfl)) (pv 1))) (pss_cons (zbz (u16 hr) (pv 0) pe_int (pe_op op_fdiv (zak (hu_of hr) (pv 0) pe_int (fun _ _ => rfl)) (pv 1))) (pss_one (ps_ret (pv 2))))) pss_nil) (pss_cons (zbz (u16 hr) (pv 0) pe_int (pe_op op_mod (pe_op zaA (pe_op op_mulA (zak (hu_of hr) (pv 0) pe_int (fun _ _ => rfl)) pe_int) pe_int) pe_int)) (pss_one (ps_ret (pe_op op_mod (pe_op op_fdiv (zak (hu_of hr) (pv 0) pe_int (fun _ _ => rfl)) pe_int) (pv 1)))))))
abbrev st__law_mixed : Stmt := top 40
theorem sc__law_mixed : FnScope ["_law_d", "_law_row", "_law_left", "_law_found"] ["_law_d", "_law_row"] (defScope st__law_mixed) := ⟨rfl, rfl, rfl, by decide +kernel, rfl, by decide +kernel, by decide +kernel⟩
def t__law_mixed (P : Program) (w : World) (K : PySem.W.Frag) (CA : Nat → Addr) : TS := (tSeq (tAsg (tCB (rListOf K) (tCons (tVar 1) tNil)) (gName 2)) (tSeq (tAsg (tLst tNil) (gName 3)) (tSeq (tWhile (tTest (tOp (rNeD K) (tVar 2) (tLst tNil))) (tDrop (tApp K (tVar 3) (tBM K "list" rPopAt (tVar 2) (tCons (tCall (spOf (Wv P w K CA) 2 zae) [] L2.E0 (tCons (tVar 0) (tCons (tCB (rLenA K) (tCons (tVar 2) tNil)) tNil))) tNil))))) (tRet (tVar 3)))))
theorem sim__law_mixed : SimS (Wv P w K CA) (t__law_mixed P w K CA) (bo__law_mixed) := (zaf (zar (zas (zaa zab zac) sim_list)) (zaf (zar (zaH zac)) (zaf (simS_while (zan (zag zab (zaH zac) sim_ne)) (simS_appPop (zai (dfl := []) (zaa zab (zaa (zas (zaa zab zac) zbv) zac)) rfl rfl))) simS_retVar)))
theorem ok__law_mixed (T : Fx K mg) {f : Addr} {fd : FuncData} (F : FnP K "_law_mixed" "_law_mixed" st__law_mixed [] f fd) (G__law_off : Kn P w K mg base 1 "_law_off" ["_law_d", "_law_most"] [] (spOf (Wv P w K CA) 2 zae))  : FnOk P w K mg base CX0 2 f fd ["_law_d", "_law_row"] (spOf (Wv P w K CA) 2 zaY) := by
  have sc := sc__law_mixed
  refine fn_ok F sc fun cdv A outer s H E hr => ⟨t__law_mixed P w K CA, ?_, sim__law_mixed⟩
  exact (pss_cons (ps_set (i := 2) sc.nd rfl (by first | exact .inl rfl | exact .inr rfl) (pe_callTy call_list_of (by rfl) T.b_list bb_list (pa_cons (pv 1) pa_nil))) (pss_cons (ps_set (i := 3) sc.nd rfl (by first | exact .inl rfl | exact .inr rfl) (pe_lst pa_nil)) (pss_cons (ps_while PassesOwn.never (pt_cmpR (op_neD hr.units) (pv 2) (pe_lst pa_nil) (nomark _)) (pss_one (ps_expr (pe_bm PySem.F.plainAttrs_list PySem.F.slot_list_append PySem.F.type_list_append mt_append (pv 3) (pa_cons (pe_bm PySem.F.plainAttrs_list PySem.F.slot_list_pop PySem.F.type_list_pop mt_popAt (pv 2) (pa_cons (zaD G__law_off (hr.mono (by omega)) (by rfl) (pa_cons (pv 0) (pa_cons (pe_callB zaW (by rfl) T.b_len bb_len (pa_cons (pv 2) pa_nil)) pa_nil))) pa_nil)) pa_nil))))) (pss_one (ps_ret (pv 3))))))
abbrev st__law_some : Stmt := top 46
theorem sc__law_some : FnScope ["_law_few"] ["_law_few"] (defScope st__law_some) := ⟨rfl, rfl, rfl, by decide +kernel, rfl, by decide +kernel, by decide +kernel⟩
def t__law_some (P : Program) (w : World) (K : PySem.W.Frag) (CA : Nat → Addr) : TS := (tRet (tDGet2 (tDisp (tPrs [1, 2, 3] [(tLst (tCons (tC (.int 9)) tNil)), (tLst (tCons (tC (.int 0)) (tCons (tC (.int 9)) tNil))), (tLst (tCons (tC (.int 0)) (tCons (tC (.int 4)) (tCons (tC (.int 9)) tNil))))])) (tVar 0) (tLstRg (tRg1 (tVar 0)))))
theorem sim__law_some : SimS (Wv P w K CA) (t__law_some P w K CA) (bo__law_some) := (zao (sim_dispGet (ks := [1, 2, 3]) (.cons (zaH (zaa zad zac)) (.cons (zaH (zaa zad (zaa zad zac))) (.cons (zaH (zaa zad (zaa zad (zaa zad zac)))) .nil))) rfl zab (sim_listRg zab)))
theorem ok__law_some (T : Fx K mg) {f : Addr} {fd : FuncData} (F : FnP K "_law_some" "_law_some" st__law_some [] f fd)   : FnOk P w K mg base CX0 1 f fd ["_law_few"] (spOf (Wv P w K CA) 1 zaS) := by
  have sc := sc__law_some
  refine fn_ok F sc fun cdv A outer s H E hr => ⟨t__law_some P w K CA, ?_, sim__law_some⟩
  exact (pss_one (ps_ret (pe_dget2 (hu_of hr) (pe_disp (pps_cons pe_int (pe_lst (pa_cons pe_int pa_nil)) (pps_cons pe_int (pe_lst (pa_cons pe_int (pa_cons pe_int pa_nil))) (pps_cons pe_int (pe_lst (pa_cons pe_int (pa_cons pe_int (pa_cons pe_int pa_nil)))) pps_nil))) (by rfl) (by rfl) (fun z => by cases z) (by decide)) (pv 0) (pe_listRg rfl (by rfl) T.b_list (prg_1 (by rfl) T.b_range (pv 0))) ⟨rfl, rfl, rfl, rfl⟩)))
abbrev st__law_files : Stmt := top 42
theorem sc__law_files : FnScope ["_law_d", "_law_few", "_law_some_here"] ["_law_d", "_law_few"] (defScope st__law_files) := ⟨rfl, rfl, rfl, by decide +kernel, rfl, by decide +kernel, by decide +kernel⟩
def t__law_files (P : Program) (w : World) (K : PySem.W.Frag) (CA : Nat → Addr) : TS := (tSeq (tAsg (tSl (rSlB K) (tCall (spOf (Wv P w K CA) 2 zaY) [] L2.E0 (tCons (tVar 0) (tCons (tCall (spOf (Wv P w K CA) 1 zaS) [] L2.E0 (tCons (tVar 1) tNil)) tNil))) tNoPart (tPart (tOp (rAddA K) (tC (.int 1)) (tCall (spOf (Wv P w K CA) 2 zae) [] L2.E0 (tCons (tVar 0) (tCons (tCB (rMinA K) (tCons (tC (.int 4)) (tCons (tVar 1) tNil))) tNil)))))) (gName 2)) (tRet (tCB (rTupOf K) (tCons (tCB (rSortedI K) (tCons (tVar 2) tNil)) tNil))))
theorem sim__law_files : SimS (Wv P w K CA) (t__law_files P w K CA) (bo__law_files) := (zaf (zar (sim_slice (zai (dfl := []) (zaa zab (zaa (zai (dfl := []) (zaa zab zac) rfl rfl) zac)) rfl rfl) simP_none (simP_some (zag zad (zai (dfl := []) (zaa zab (zaa (zas (zaa zad (zaa zab zac)) sim_min) zac)) rfl rfl) zaz)))) (zao (zas (zaa (zas (zaa zab zac) sim_sorted) zac) zbc)))
theorem ok__law_files (T : Fx K mg) {f : Addr} {fd : FuncData} (F : FnP K "_law_files" "_law_files" st__law_files [] f fd) (G__law_mixed : Kn P w K mg base 2 "_law_mixed" ["_law_d", "_law_row"] [] (spOf (Wv P w K CA) 2 zaY)) (G__law_some : Kn P w K mg base 1 "_law_some" ["_law_few"] [] (spOf (Wv P w K CA) 1 zaS)) (G__law_off : Kn P w K mg base 1 "_law_off" ["_law_d", "_law_most"] [] (spOf (Wv P w K CA) 2 zae))  : FnOk P w K mg base CX0 3 f fd ["_law_d", "_law_few"] (spOf (Wv P w K CA) 2 za4) := by
  have sc := sc__law_files
  refine fn_ok F sc fun cdv A outer s H E hr => ⟨t__law_files P w K CA, ?_, sim__law_files⟩
  exact (pss_cons (ps_set (i := 2) sc.nd rfl (by first | exact .inl rfl | exact .inr rfl) (pe_slice sl_any (zaD G__law_mixed (hr.mono (by omega)) (by rfl) (pa_cons (pv 0) (pa_cons (zaD G__law_some (hr.mono (by omega)) (by rfl) (pa_cons (pv 1) pa_nil)) pa_nil))) po_none (po_some (pe_op zaA pe_int (zaD G__law_off (hr.mono (by omega)) (by rfl) (pa_cons (pv 0) (pa_cons (pe_callB (call_minA rfl) (by rfl) T.b_min bb_min (pa_cons pe_int (pa_cons (pv 1) pa_nil))) pa_nil))))))) (pss_one (ps_ret (pe_callTy call_tuple_of (by rfl) T.b_tuple zaL (pa_cons (pe_callB cr_sortedI (by rfl) T.b_sorted bb_sorted (pa_cons (pv 2) pa_nil)) pa_nil)))))
abbrev st__law_deed : Stmt := top 43
theorem sc__law_deed : FnScope ["_law_d", "_law_few", "_law_kind", "_law_worth", "_law_one", "_law_other"] ["_law_d", "_law_few"] (defScope st__law_deed) := ⟨rfl, rfl, rfl, by decide +kernel, rfl, by decide +kernel, by decide +kernel⟩
def t__law_deed (P : Program) (w : World) (K : PySem.W.Frag) (CA : Nat → Addr) : TS := (tSeq (tAsg (tCall (spOf (Wv P w K CA) 2 zae) [] L2.E0 (tCons (tVar 0) (tCons (tC (.int 10)) tNil))) (gName 2)) (tSeq (tIfS (tTest (tOp rLtI (tVar 2) (tC (.int 5)))) (tRet (tTup (tCons (tC (.str "look")) (tCons (tCall (spOf (Wv P w K CA) 2 za4) [] L2.E0 (tCons (tVar 0) (tCons (tVar 1) tNil))) tNil)))) tNext) (tSeq (tAsg (tIxA K (tLst (tCons (tCall (spOf (Wv P w K CA) 2 zae) [] L2.E0 (tCons (tVar 0) (tCons (tC (.int 6)) tNil))) (tCons (tIxA K (tLst (tCons (tC (.int 700)) (tCons (tCall (spOf (Wv P w K CA) 2 zae) [] L2.E0 (tCons (tVar 0) (tCons (tC (.int 1000)) tNil))) tNil))) (tCall (spOf (Wv P w K CA) 2 zae) [] L2.E0 (tCons (tVar 0) (tCons (tC (.int 2)) tNil)))) tNil))) (tCB rIntA (tCons (tOp (rEqD K) (tCall (spOf (Wv P w K CA) 2 zae) [] L2.E0 (tCons (tVar 0) (tCons (tC (.int 4)) tNil))) (tC (.int 0))) tNil))) (gName 3)) (tSeq (tIfS (tTest (tOp rLtI (tVar 2) (tC (.int 7)))) (tRet (tTup (tCons (tC (.str "put")) (tCons (tCB (rTupOf K) (tCons (tLc (iSeq K (tCall (spOf (Wv P w K CA) 2 za4) [] L2.E0 (tCons (tVar 0) (tCons (tVar 1) tNil)))) (gName 4) tYes (tTup (tCons (tVar 4) (tCons (tOp (rAddA K) (tCall (spOf (Wv P w K CA) 2 zae) [] L2.E0 (tCons (tVar 0) (tCons (tC (.int 5)) tNil))) (tOp rModI (tVar 3) (tC (.int 996)))) tNil))) [4]) tNil)) tNil)))) tNext) (tSeq (tIfS (tOr (tTest (tOp rLtI (tVar 2) (tC (.int 9)))) (tTest (tOp rLtI (tVar 1) (tC (.int 2))))) (tRet (tTup (tCons (tC (.str "add")) (tCons (tIxA K (tCall (spOf (Wv P w K CA) 1 zaS) [] L2.E0 (tCons (tVar 1) tNil)) (tCall (spOf (Wv P w K CA) 2 zae) [] L2.E0 (tCons (tVar 0) (tCons (tVar 1) tNil)))) (tCons (tIxA K (tLst (tCons (tOp (rAddA K) (tC (.int 1)) (tCall (spOf (Wv P w K CA) 2 zae) [] L2.E0 (tCons (tVar 0) (tCons (tC (.int 4)) tNil)))) (tCons (tVar 3) tNil))) (tCB rIntA (tCons (tOp (rEqD K) (tCall (spOf (Wv P w K CA) 2 zae) [] L2.E0 (tCons (tVar 0) (tCons (tC (.int 4)) tNil))) (tC (.int 0))) tNil))) tNil))))) tNext) (tSeq (tAsg (tSl (rSlB K) (tCall (spOf (Wv P w K CA) 2 zaY) [] L2.E0 (tCons (tVar 0) (tCons (tCall (spOf (Wv P w K CA) 1 zaS) [] L2.E0 (tCons (tVar 1) tNil)) tNil))) tNoPart (tPart (tC (.int 2)))) (gUnp K [4, 5])) (tRet (tTup (tCons (tC (.str "move")) (tCons (tVar 4) (tCons (tVar 5) (tCons (tIxA K (tLst (tCons (tCall (spOf (Wv P w K CA) 2 zae) [] L2.E0 (tCons (tVar 0) (tCons (tC (.int 5)) tNil))) (tCons (tVar 3) tNil))) (tCB rIntA (tCons (tOp (rEqD K) (tCall (spOf (Wv P w K CA) 2 zae) [] L2.E0 (tCons (tVar 0) (tCons (tC (.int 4)) tNil))) (tC (.int 0))) tNil))) tNil))))))))))))
theorem sim__law_deed : SimS (Wv P w K CA) (t__law_deed P w K CA) (bo__law_deed) := (zaf (zar (zai (dfl := []) (zaa zab (zaa zad zac)) rfl rfl)) (zaf (zau (zan (zag zab zad sim_lt)) (zao (zal (zaa zaq (zaa (zai (dfl := []) (zaa zab (zaa zab zac)) rfl rfl) zac)))) zap) (zaf (zar (sim_pick (zaa (zai (dfl := []) (zaa zab (zaa zad zac)) rfl rfl) (zaa (sim_pick (zaa zad (zaa (zai (dfl := []) (zaa zab (zaa zad zac)) rfl rfl) zac)) (zai (dfl := []) (zaa zab (zaa zad zac)) rfl rfl)) zac)) (zas (zaa (zag (zai (dfl := []) (zaa zab (zaa zad zac)) rfl rfl) zad za5) zac) sim_intc))) (zaf (zau (zan (zag zab zad sim_lt)) (zao (zal (zaa zaq (zaa (zas (zaa (zaN (js := [4]) (vs := [4]) (za0 (zai (dfl := []) (zaa zab (zaa zab zac)) rfl rfl)) zaF (by decide) zbC (zal (zaa zab (zaa (zag (zai (dfl := []) (zaa zab (zaa zad zac)) rfl rfl) (zag zab zad sim_mod) zaz) zac)))) zac) zbc) zac)))) zap) (zaf (zau (zbk (zan (zag zab zad sim_lt)) (zan (zag zab zad sim_lt))) (zao (zal (zaa zaq (zaa (zam (zai (dfl := []) (zaa zab zac) rfl rfl) (zai (dfl := []) (zaa zab (zaa zab zac)) rfl rfl)) (zaa (sim_pick (zaa (zag zad (zai (dfl := []) (zaa zab (zaa zad zac)) rfl rfl) zaz) (zaa zab zac)) (zas (zaa (zag (zai (dfl := []) (zaa zab (zaa zad zac)) rfl rfl) zad za5) zac) sim_intc)) zac))))) zap) (zaf (simS_unp (sim_slice (zai (dfl := []) (zaa zab (zaa (zai (dfl := []) (zaa zab zac) rfl rfl) zac)) rfl rfl) simP_none (simP_some zad))) (zao (zal (zaa zaq (zaa zab (zaa zab (zaa (sim_pick (zaa (zai (dfl := []) (zaa zab (zaa zad zac)) rfl rfl) (zaa zab zac)) (zas (zaa (zag (zai (dfl := []) (zaa zab (zaa zad zac)) rfl rfl) zad za5) zac) sim_intc)) zac))))))))))))
theorem ok__law_deed (T : Fx K mg) {f : Addr} {fd : FuncData} (F : FnP K "_law_deed" "_law_deed" st__law_deed [] f fd) (G__law_off : Kn P w K mg base 1 "_law_off" ["_law_d", "_law_most"] [] (spOf (Wv P w K CA) 2 zae)) (G__law_files : Kn P w K mg base 3 "_law_files" ["_law_d", "_law_few"] [] (spOf (Wv P w K CA) 2 za4)) (G__law_some : Kn P w K mg base 1 "_law_some" ["_law_few"] [] (spOf (Wv P w K CA) 1 zaS)) (G__law_mixed : Kn P w K mg base 2 "_law_mixed" ["_law_d", "_law_row"] [] (spOf (Wv P w K CA) 2 zaY))  : FnOk P w K mg base CX0 4 f fd ["_law_d", "_law_few"] (spOf (Wv P w K CA) 2 zbA) := by
  have sc := sc__law_deed
  refine fn_ok F sc fun cdv A outer s H E hr => ⟨t__law_deed P w K CA, ?_, sim__law_deed⟩
  exact (pss_cons (ps_set (i := 2) sc.nd rfl (by first | exact .inl rfl | exact .inr rfl) (zaD G__law_off (hr.mono (by omega)) (by rfl) (pa_cons (pv 0) (pa_cons pe_int pa_nil)))) (pss_cons (ps_if (pt_cmpR op_lt (pv 2) pe_int (nomark _)) (pss_one (ps_ret (pe_tup (pa_cons pe_str (pa_cons (zaD G__law_files (hr.mono (by omega)) (by rfl) (pa_cons (pv 0) (pa_cons (pv 1) pa_nil))) pa_nil))))) pss_nil) (pss_cons (ps_set (i := 3) sc.nd rfl (by first | exact .inl rfl | exact .inr rfl) (zak (hu_of hr) (pe_lst (pa_cons (zaD G__law_off (hr.mono (by omega)) (by rfl) (pa_cons (pv 0) (pa_cons pe_int pa_nil))) (pa_cons (zak (hu_of hr) (pe_lst (pa_cons pe_int (pa_cons (zaD G__law_off (hr.mono (by omega)) (by rfl) (pa_cons (pv 0) (pa_cons pe_int pa_nil))) pa_nil))) (zaD G__law_off (hr.mono (by omega)) (by rfl) (pa_cons (pv 0) (pa_cons pe_int pa_nil))) (fun _ _ => rfl)) pa_nil))) (pe_callTy call_int1 (by rfl) T.b_int bb_int (pa_cons (pe_cmpR (op_eqD hr.units) (zaD G__law_off (hr.mono (by omega)) (by rfl) (pa_cons (pv 0) (pa_cons pe_int pa_nil))) pe_int (nomark _)) pa_nil)) (fun _ _ => rfl))) (pss_cons (ps_if (pt_cmpR op_lt (pv 2) pe_int (nomark _)) (pss_one (ps_ret (pe_tup (pa_cons pe_str (pa_cons (pe_callTy call_tuple_of (by rfl) T.b_tuple zaL (pa_cons (pe_lc (own := [("_law_one", 4)]) rfl sc.nd (zba (zaD G__law_files (hr.mono (by omega)) (by rfl) (pa_cons (pv 0) (pa_cons (pv 1) pa_nil)))) (blkOk_by (by kernel_rfl)) (fun _ _ _ _ _ => (pg_name (i := 4) sc.nd rfl (by first | exact .inl rfl | exact .inr rfl))) (fun _ _ _ _ _ => pts_nil) (fun _ _ _ _ _ => (pe_tup (pa_cons (pv 4) (pa_cons (pe_op zaA (zaD G__law_off (hr.mono (by omega)) (by rfl) (pa_cons (pv 0) (pa_cons pe_int pa_nil))) (pe_op op_mod (pv 3) pe_int)) pa_nil))))) pa_nil)) pa_nil))))) pss_nil) (pss_cons (ps_if (PW.pt (pw_or (pt_cmpR op_lt (pv 2) pe_int (nomark _)) (pw_or1 (pt_cmpR op_lt (pv 1) pe_int (nomark _))))) (pss_one (ps_ret (pe_tup (pa_cons pe_str (pa_cons (zak (hu_of hr) (zaD G__law_some (hr.mono (by omega)) (by rfl) (pa_cons (pv 1) pa_nil)) (zaD G__law_off (hr.mono (by omega)) (by rfl) (pa_cons (pv 0) (pa_cons (pv 1) pa_nil))) (fun _ _ => rfl)) (pa_cons (zak (hu_of hr) (pe_lst (pa_cons (pe_op zaA pe_int (zaD G__law_off (hr.mono (by omega)) (by rfl) (pa_cons (pv 0) (pa_cons pe_int pa_nil)))) (pa_cons (pv 3) pa_nil))) (pe_callTy call_int1 (by rfl) T.b_int bb_int (pa_cons (pe_cmpR (op_eqD hr.units) (zaD G__law_off (hr.mono (by omega)) (by rfl) (pa_cons (pv 0) (pa_cons pe_int pa_nil))) pe_int (nomark _)) pa_nil)) (fun _ _ => rfl)) pa_nil)))))) pss_nil) (pss_cons (ps_asg (pe_slice sl_any (zaD G__law_mixed (hr.mono (by omega)) (by rfl) (pa_cons (pv 0) (pa_cons (zaD G__law_some (hr.mono (by omega)) (by rfl) (pa_cons (pv 1) pa_nil)) pa_nil))) po_none (po_some pe_int)) (pg_unp (is := [4, 5]) (by rfl) (pgs_cons (pg_name (i := 4) sc.nd rfl (by first | exact .inl rfl | exact .inr rfl)) (pgs_cons (pg_name (i := 5) sc.nd rfl (by first | exact .inl rfl | exact .inr rfl)) pgs_nil)))) (pss_one (ps_ret (pe_tup (pa_cons pe_str (pa_cons (pv 4) (pa_cons (pv 5) (pa_cons (zak (hu_of hr) (pe_lst (pa_cons (zaD G__law_off (hr.mono (by omega)) (by rfl) (pa_cons (pv 0) (pa_cons pe_int pa_nil))) (pa_cons (pv 3) pa_nil))) (pe_callTy call_int1 (by rfl) T.b_int bb_int (pa_cons (pe_cmpR (op_eqD hr.units) (zaD G__law_off (hr.mono (by omega)) (by rfl) (pa_cons (pv 0) (pa_cons pe_int pa_nil))) pe_int (nomark _)) pa_nil)) (fun _ _ => rfl)) pa_nil)))))))))))))
abbrev st__law_done : Stmt := top 44
theorem sc__law_done : FnScope ["_law_worths", "_law_deed_here", "_law_row", "_law_old", "_law_one", "_law_worth"] ["_law_worths", "_law_deed_here"] (defScope st__law_done) := ⟨rfl, rfl, rfl, by decide +kernel, rfl, by decide +kernel, by decide +kernel⟩
def t__law_done (P : Program) (w : World) (K : PySem.W.Frag) (CA : Nat → Addr) : TS := (tSeq (tAsg (tCB (rListOf K) (tCons (tVar 0) tNil)) (gName 2)) (tSeq (tIfS (tTest (tOp (rEqD K) (tIxA K (tVar 1) (tC (.int 0))) (tC (.str "look")))) (tRet (tTup (tCons (tCB (rTupOf K) (tCons (tLc (iSeq K (tIxA K (tVar 1) (tC (.int 1)))) (gName 4) tYes (tIxA K (tVar 2) (tVar 4)) [4]) tNil)) (tCons (tVar 0) tNil)))) tNext) (tSeq (tIfS (tTest (tOp (rEqD K) (tIxA K (tVar 1) (tC (.int 0))) (tC (.str "put")))) (tSeq (tAsg (tCB (rTupOf K) (tCons (tLc (iSeq K (tIxA K (tVar 1) (tC (.int 1)))) (gTup K 2 (gNames [4, 5])) tYes (tIxA K (tVar 2) (tVar 4)) [4, 5]) tNil)) (gName 3)) (tSeq (tFor (iSeq K (tIxA K (tVar 1) (tC (.int 1)))) (gTup K 2 (gNames [4, 5])) (tSet (tVar 2) (tVar 4) (tVar 5))) (tRet (tTup (tCons (tVar 3) (tCons (tCB (rTupOf K) (tCons (tVar 2) tNil)) tNil)))))) tNext) (tSeq (tIfS (tTest (tOp (rEqD K) (tIxA K (tVar 1) (tC (.int 0))) (tC (.str "add")))) (tSeq (tSet (tVar 2) (tIxA K (tVar 1) (tC (.int 1))) (tOp rModI (tOp (rAddA K) (tIxA K (tVar 2) (tIxA K (tVar 1) (tC (.int 1)))) (tIxA K (tVar 1) (tC (.int 2)))) (tC (.int 1000)))) (tRet (tTup (tCons (tIxA K (tVar 2) (tIxA K (tVar 1) (tC (.int 1)))) (tCons (tCB (rTupOf K) (tCons (tVar 2) tNil)) tNil))))) tNext) (tSeq (tIfS (tOr (tTest (tOp rGtI (tIxA K (tVar 1) (tC (.int 3))) (tIxA K (tVar 2) (tIxA K (tVar 1) (tC (.int 1)))))) (tTest (tOp rGtI (tOp (rAddA K) (tIxA K (tVar 2) (tIxA K (tVar 1) (tC (.int 2)))) (tIxA K (tVar 1) (tC (.int 3)))) (tC (.int 999))))) (tRet (tTup (tCons (tC (.bl false)) (tCons (tVar 0) tNil)))) tNext) (tSeq (tSet (tVar 2) (tIxA K (tVar 1) (tC (.int 1))) (tOp rSubI (tIxA K (tVar 2) (tIxA K (tVar 1) (tC (.int 1)))) (tIxA K (tVar 1) (tC (.int 3))))) (tSeq (tSet (tVar 2) (tIxA K (tVar 1) (tC (.int 2))) (tOp (rAddA K) (tIxA K (tVar 2) (tIxA K (tVar 1) (tC (.int 2)))) (tIxA K (tVar 1) (tC (.int 3))))) (tRet (tTup (tCons (tC (.bl true)) (tCons (tCB (rTupOf K) (tCons (tVar 2) tNil)) tNil)))))))))))
theorem sim__law_done : SimS (Wv P w K CA) (t__law_done P w K CA) (bo__law_done) := (zaf (zar (zas (zaa zab zac) sim_list)) (zaf (zau (zan (zag (zam zab zad) zaq za5)) (zao (zal (zaa (zas (zaa (zaN (js := [4]) (vs := [4]) (za0 (zam zab zad)) zaF (by decide) zbC (zam zab zab)) zac) zbc) (zaa zab zac)))) zap) (zaf (zau (zan (zag (zam zab zad) zaq za5)) (zaf (zar (zas (zaa (zaN (js := [4, 5]) (vs := [4, 5]) (za0 (zam zab zad)) simG_tup (by decide) zbC (zam zab zab)) zac) zbc)) (zaf (zbD (za0 (zam zab zad)) (tg_tup (is := [4, 5])) (zbl zab zab)) (zao (zal (zaa zab (zaa (zas (zaa zab zac) zbc) zac)))))) zap) (zaf (zau (zan (zag (zam zab zad) zaq za5)) (zaf (zbl (zam zab zad) (zag (zag (zam zab (zam zab zad)) (zam zab zad) zaz) zad sim_mod)) (zao (zal (zaa (zam zab (zam zab zad)) (zaa (zas (zaa zab zac) zbc) zac))))) zap) (zaf (zau (zbk (zan (zag (zam zab zad) (zam zab (zam zab zad)) sim_gt)) (zan (zag (zag (zam zab (zam zab zad)) (zam zab zad) zaz) zad sim_gt))) (zao (zal (zaa za9 (zaa zab zac)))) zap) (zaf (zbl (zam zab zad) (zag (zam zab (zam zab zad)) (zam zab zad) sim_sub)) (zaf (zbl (zam zab zad) (zag (zam zab (zam zab zad)) (zam zab zad) zaz)) (zao (zal (zaa za9 (zaa (zas (zaa zab zac) zbc) zac)))))))))))
theorem ok__law_done (T : Fx K mg) {f : Addr} {fd : FuncData} (F : FnP K "_law_done" "_law_done" st__law_done [] f fd)   : FnOk P w K mg base CX0 1 f fd ["_law_worths", "_law_deed_here"] (spOf (Wv P w K CA) 2 za6) := by
  have sc := sc__law_done
  refine fn_ok F sc fun cdv A outer s H E hr => ⟨t__law_done P w K CA, ?_, sim__law_done⟩
  exact (pss_cons (ps_set (i := 2) sc.nd rfl (by first | exact .inl rfl | exact .inr rfl) (pe_callTy call_list_of (by rfl) T.b_list bb_list (pa_cons (pv 0) pa_nil))) (pss_cons (ps_if (pt_cmpR (op_eqD hr.units) (zak (hu_of hr) (pv 1) pe_int (fun _ _ => rfl)) pe_str (nomark _)) (pss_one (ps_ret (pe_tup (pa_cons (pe_callTy call_tuple_of (by rfl) T.b_tuple zaL (pa_cons (pe_lc (own := [("_law_one", 4)]) rfl sc.nd (zba (zak (hu_of hr) (pv 1) pe_int (fun _ _ => rfl))) (blkOk_by (by kernel_rfl)) (fun _ _ _ _ _ => (pg_name (i := 4) sc.nd rfl (by first | exact .inl rfl | exact .inr rfl))) (fun _ _ _ _ _ => pts_nil) (fun _ _ _ _ _ => (zak (hu_of hr) (pv 2) (pv 4) (fun _ _ => rfl)))) pa_nil)) (pa_cons (pv 0) pa_nil))))) pss_nil) (pss_cons (ps_if (pt_cmpR (op_eqD hr.units) (zak (hu_of hr) (pv 1) pe_int (fun _ _ => rfl)) pe_str (nomark _)) (pss_cons (ps_set (i := 3) sc.nd rfl (by first | exact .inl rfl | exact .inr rfl) (pe_callTy call_tuple_of (by rfl) T.b_tuple zaL (pa_cons (pe_lc (own := [("_law_one", 4), ("_law_worth", 5)]) rfl sc.nd (zba (zak (hu_of hr) (pv 1) pe_int (fun _ _ => rfl))) (blkOk_by (by kernel_rfl)) (fun _ _ _ _ _ => (pg_tup (by rfl) (pgs_cons (pg_name (i := 4) sc.nd rfl (by first | exact .inl rfl | exact .inr rfl)) (pgs_cons (pg_name (i := 5) sc.nd rfl (by first | exact .inl rfl | exact .inr rfl)) pgs_nil)))) (fun _ _ _ _ _ => pts_nil) (fun _ _ _ _ _ => (zak (hu_of hr) (pv 2) (pv 4) (fun _ _ => rfl)))) pa_nil))) (pss_cons (ps_for PassesOwn.never rfl (zba (zak (hu_of hr) (pv 1) pe_int (fun _ _ => rfl))) (pg_tup (by rfl) (pgs_cons (pg_name (i := 4) sc.nd rfl (by first | exact .inl rfl | exact .inr rfl)) (pgs_cons (pg_name (i := 5) sc.nd rfl (by first | exact .inl rfl | exact .inr rfl)) pgs_nil))) (pss_one (zbz (u16 hr) (pv 2) (pv 4) (pv 5)))) (pss_one (ps_ret (pe_tup (pa_cons (pv 3) (pa_cons (pe_callTy call_tuple_of (by rfl) T.b_tuple zaL (pa_cons (pv 2) pa_nil)) pa_nil))))))) pss_nil) (pss_cons (ps_if (pt_cmpR (op_eqD hr.units) (zak (hu_of hr) (pv 1) pe_int (fun _ _ => rfl)) pe_str (nomark _)) (pss_cons (zbz (u16 hr) (pv 2) (zak (hu_of hr) (pv 1) pe_int (fun _ _ => rfl)) (pe_op op_mod (pe_op zaA (zak (hu_of hr) (pv 2) (zak (hu_of hr) (pv 1) pe_int (fun _ _ => rfl)) (fun _ _ => rfl)) (zak (hu_of hr) (pv 1) pe_int (fun _ _ => rfl))) pe_int)) (pss_one (ps_ret (pe_tup (pa_cons (zak (hu_of hr) (pv 2) (zak (hu_of hr) (pv 1) pe_int (fun _ _ => rfl)) (fun _ _ => rfl)) (pa_cons (pe_callTy call_tuple_of (by rfl) T.b_tuple zaL (pa_cons (pv 2) pa_nil)) pa_nil)))))) pss_nil) (pss_cons (ps_if (PW.pt (pw_or (pt_cmpR op_gt (zak (hu_of hr) (pv 1) pe_int (fun _ _ => rfl)) (zak (hu_of hr) (pv 2) (zak (hu_of hr) (pv 1) pe_int (fun _ _ => rfl)) (fun _ _ => rfl)) (nomark _)) (pw_or1 (pt_cmpR op_gt (pe_op zaA (zak (hu_of hr) (pv 2) (zak (hu_of hr) (pv 1) pe_int (fun _ _ => rfl)) (fun _ _ => rfl)) (zak (hu_of hr) (pv 1) pe_int (fun _ _ => rfl))) pe_int (nomark _))))) (pss_one (ps_ret (pe_tup (pa_cons pe_bl (pa_cons (pv 0) pa_nil))))) pss_nil) (pss_cons (zbz (u16 hr) (pv 2) (zak (hu_of hr) (pv 1) pe_int (fun _ _ => rfl)) (pe_op op_sub (zak (hu_of hr) (pv 2) (zak (hu_of hr) (pv 1) pe_int (fun _ _ => rfl)) (fun _ _ => rfl)) (zak (hu_of hr) (pv 1) pe_int (fun _ _ => rfl)))) (pss_cons (zbz (u16 hr) (pv 2) (zak (hu_of hr) (pv 1) pe_int (fun _ _ => rfl)) (pe_op zaA (zak (hu_of hr) (pv 2) (zak (hu_of hr) (pv 1) pe_int (fun _ _ => rfl)) (fun _ _ => rfl)) (zak (hu_of hr) (pv 1) pe_int (fun _ _ => rfl)))) (pss_one (ps_ret (pe_tup (pa_cons pe_bl (pa_cons (pe_callTy call_tuple_of (by rfl) T.b_tuple zaL (pa_cons (pv 2) pa_nil)) pa_nil))))))))))))
abbrev zbw : Stmt := top 45
theorem sc__law_history : FnScope ["_law_d", "_law_most", "_law_many", "_law_first", "_law_rows", "_law_ends", "_law_worths", "_law_moment", "_law_honest", "_law_turn", "_law_user", "_law_deed_here", "_law_begin", "_law_old", "_law_row", "_law_answer"] ["_law_d", "_law_most"] (defScope zbw) := ⟨rfl, rfl, rfl, by decide +kernel, rfl, by decide +kernel, by decide +kernel⟩
def t__law_history (P : Program) (w : World) (K : PySem.W.Frag) (CA : Nat → Addr) : TS := (tSeq (tAsg (tOp (rAddA K) (tC (.int 1)) (tCall (spOf (Wv P w K CA) 2 zae) [] L2.E0 (tCons (tVar 0) (tCons (tC (.int 3)) tNil)))) (gName 2)) (tSeq (tAsg (tIxA K (tLst (tCons (tC (.int 0)) (tCons (tC (.int 0)) (tCons (tC (.int 97)) tNil)))) (tCall (spOf (Wv P w K CA) 2 zae) [] L2.E0 (tCons (tVar 0) (tCons (tC (.int 3)) tNil)))) (gName 3)) (tSeq (tAsg (tLst tNil) (gName 4)) (tSeq (tAsg (tOp (rMulA K) (tLst (tCons (tC (.int 0)) tNil)) (tVar 2)) (gName 5)) (tSeq (tAsg (tOp (rMulA K) (tTup (tCons (tC (.int 0)) tNil)) (tC (.int 10))) (gName 6)) (tSeq (tAsg (tC (.int 0)) (gName 7)) (tSeq (tAsg (tOp rGtI (tCall (spOf (Wv P w K CA) 2 zae) [] L2.E0 (tCons (tVar 0) (tCons (tC (.int 3)) tNil))) (tC (.int 0))) (gName 8)) (tSeq (tFor (iRng1 (tCons (tCall (spOf (Wv P w K CA) 2 zae) [] L2.E0 (tCons (tVar 0) (tCons (tOp (rAddA K) (tVar 1) (tC (.int 1))) tNil))) tNil)) (gName 9) (tSeq (tAsg (tCall (spOf (Wv P w K CA) 2 zae) [] L2.E0 (tCons (tVar 0) (tCons (tVar 2) tNil))) (gName 10)) (tSeq (tAsg (tCall (spOf (Wv P w K CA) 2 zbA) [] L2.E0 (tCons (tVar 0) (tCons (tC (.int 3)) tNil))) (gName 11)) (tSeq (tAsg (tOp (rAddA K) (tOp (rAddA K) (tVar 7) (tC (.int 1))) (tCall (spOf (Wv P w K CA) 2 zae) [] L2.E0 (tCons (tVar 0) (tCons (tC (.int 2)) tNil)))) (gName 7)) (tSeq (tAsg (tCB rMax2I (tCons (tOp (rAddA K) (tIxA K (tVar 5) (tVar 10)) (tC (.int 1))) (tCons (tOp rSubI (tVar 7) (tCall (spOf (Wv P w K CA) 2 zae) [] L2.E0 (tCons (tVar 0) (tCons (tC (.int 6)) tNil)))) tNil))) (gName 12)) (tSeq (tAsg (tVar 6) (gName 13)) (tSeq (tAsg (tCall (spOf (Wv P w K CA) 2 za6) [] L2.E0 (tCons (tVar 6) (tCons (tVar 11) tNil))) (gUnp K [15, 6])) (tSeq (tIfS (tAnd (tNot (tB (tVar 8))) (tTest (tOp (rEqD K) (tCall (spOf (Wv P w K CA) 2 zae) [] L2.E0 (tCons (tVar 0) (tCons (tC (.int 2)) tNil))) (tC (.int 0))))) (tAsg (tIxA K (tCall (spOf (Wv P w K CA) 2 za6) [] L2.E0 (tCons (tIf (tTest (tOp (rNeD K) (tIxA K (tVar 11) (tC (.int 0))) (tC (.str "look")))) (tVar 13) (tOp (rMulA K) (tTup (tCons (tC (.int 0)) tNil)) (tC (.int 10)))) (tCons (tVar 11) tNil))) (tC (.int 0))) (gName 15)) tNext) (tSeq (tSet (tVar 5) (tVar 10) (tCB rMax2I (tCons (tOp (rAddA K) (tVar 12) (tC (.int 1))) (tCons (tOp (rAddA K) (tVar 7) (tCall (spOf (Wv P w K CA) 2 zae) [] L2.E0 (tCons (tVar 0) (tCons (tC (.int 6)) tNil)))) tNil)))) (tSeq (tAsg (tTup (tCons (tOp (rAddA K) (tVar 3) (tVar 10)) (tCons (tVar 11) (tCons (tVar 12) (tCons (tIxA K (tVar 5) (tVar 10)) (tCons (tVar 15) tNil)))))) (gName 14)) (tSeq (tIfS (tTest (tOp (rEqD K) (tCall (spOf (Wv P w K CA) 2 zae) [] L2.E0 (tCons (tVar 0) (tCons (tC (.int 6)) tNil))) (tC (.int 0)))) (tSeq (tSet (tVar 5) (tVar 10) (tVar 12)) (tAsg (tTup (tCons (tOp (rAddA K) (tVar 3) (tVar 10)) (tCons (tVar 11) (tCons (tVar 12) (tCons (tC (.non)) (tCons (tC (.non)) tNil)))))) (gName 14))) tNext) (tDrop (tApp K (tVar 4) (tVar 14)))))))))))))) (tRet (tVar 4))))))))))
theorem sim__law_history : SimS (Wv P w K CA) (t__law_history P w K CA) (bo__law_history) := (zaf (zar (zag zad (zai (dfl := []) (zaa zab (zaa zad zac)) rfl rfl) zaz)) (zaf (zar (sim_pick (zaa zad (zaa zad (zaa zad zac))) (zai (dfl := []) (zaa zab (zaa zad zac)) rfl rfl))) (zaf (zar (zaH zac)) (zaf (zar (zag (zaH (zaa zad zac)) zab sim_mul)) (zaf (zar (zag (zal (zaa zad zac)) zad sim_mul)) (zaf (zar zad) (zaf (zar (zag (zai (dfl := []) (zaa zab (zaa zad zac)) rfl rfl) zad sim_gt)) (zaf (zbD (simI_range (zai (dfl := []) (zaa zab (zaa (zag zab zad zaz) zac)) rfl rfl)) tg_name (zaf (zar (zai (dfl := []) (zaa zab (zaa zab zac)) rfl rfl)) (zaf (zar (zai (dfl := []) (zaa zab (zaa zad zac)) rfl rfl)) (zaf (zar (zag (zag zab zad zaz) (zai (dfl := []) (zaa zab (zaa zad zac)) rfl rfl) zaz)) (zaf (zar (zas (zaa (zag (zam zab zab) zad zaz) (zaa (zag zab (zai (dfl := []) (zaa zab (zaa zad zac)) rfl rfl) sim_sub) zac)) sim_max2)) (zaf (zar zab) (zaf (simS_unp (zai (dfl := []) (zaa zab (zaa zab zac)) rfl rfl)) (zaf (zau (simT_and (zaZ (zav zab)) (zan (zag (zai (dfl := []) (zaa zab (zaa zad zac)) rfl rfl) zad za5))) (zar (zam (zai (dfl := []) (zaa (sim_if (zan (zag (zam zab zad) zaq sim_ne)) zab (zag (zal (zaa zad zac)) zad sim_mul)) (zaa zab zac)) rfl rfl) zad)) zap) (zaf (zbl zab (zas (zaa (zag zab zad zaz) (zaa (zag zab (zai (dfl := []) (zaa zab (zaa zad zac)) rfl rfl) zaz) zac)) sim_max2)) (zaf (zar (zal (zaa (zag zab zab zaz) (zaa zab (zaa zab (zaa (zam zab zab) (zaa zab zac))))))) (zaf (zau (zan (zag (zai (dfl := []) (zaa zab (zaa zad zac)) rfl rfl) zad za5)) (zaf (zbl zab zab) (zar (zal (zaa (zag zab zab zaz) (zaa zab (zaa zab (zaa zbo (zaa zbo zac)))))))) zap) (simS_appV zab)))))))))))) simS_retVar))))))))
theorem ok__law_history (T : Fx K mg) {f : Addr} {fd : FuncData} (F : FnP K "_law_history" "_law_history" zbw [] f fd) (G__law_off : Kn P w K mg base 1 "_law_off" ["_law_d", "_law_most"] [] (spOf (Wv P w K CA) 2 zae)) (G__law_deed : Kn P w K mg base 4 "_law_deed" ["_law_d", "_law_few"] [] (spOf (Wv P w K CA) 2 zbA)) (G__law_done : Kn P w K mg base 1 "_law_done" ["_law_worths", "_law_deed_here"] [] (spOf (Wv P w K CA) 2 za6))  : FnOk P w K mg base CX0 5 f fd ["_law_d", "_law_most"] (spOf (Wv P w K CA) 2 zaJ) := by
  have sc := sc__law_history
  refine fn_ok F sc fun cdv A outer s H E hr => ⟨t__law_history P w K CA, ?_, sim__law_history⟩
  exact (pss_cons (ps_set (i := 2) sc.nd rfl (by first | exact .inl rfl | exact .inr rfl) (pe_op zaA pe_int (zaD G__law_off (hr.mono (by omega)) (by rfl) (pa_cons (pv 0) (pa_cons pe_int pa_nil))))) (pss_cons (ps_set (i := 3) sc.nd rfl (by first | exact .inl rfl | exact .inr rfl) (zak (hu_of hr) (pe_lst (pa_cons pe_int (pa_cons pe_int (pa_cons pe_int pa_nil)))) (zaD G__law_off (hr.mono (by omega)) (by rfl) (pa_cons (pv 0) (pa_cons pe_int pa_nil))) (fun _ _ => rfl))) (pss_cons (ps_set (i := 4) sc.nd rfl (by first | exact .inl rfl | exact .inr rfl) (pe_lst pa_nil)) (pss_cons (ps_set (i := 5) sc.nd rfl (by first | exact .inl rfl | exact .inr rfl) (pe_op op_mulA (pe_lst (pa_cons pe_int pa_nil)) (pv 2))) (pss_cons (ps_set (i := 6) sc.nd rfl (by first | exact .inl rfl | exact .inr rfl) (pe_op op_mulA (pe_tup (pa_cons pe_int pa_nil)) pe_int)) (pss_cons (ps_set (i := 7) sc.nd rfl (by first | exact .inl rfl | exact .inr rfl) pe_int) (pss_cons (ps_set (i := 8) sc.nd rfl (by first | exact .inl rfl | exact .inr rfl) (pe_cmpR op_gt (zaD G__law_off (hr.mono (by omega)) (by rfl) (pa_cons (pv 0) (pa_cons pe_int pa_nil))) pe_int (nomark _))) (pss_cons (ps_for PassesOwn.never rfl (pi_range1 (by rfl) T.b_range (pa_cons (zaD G__law_off (hr.mono (by omega)) (by rfl) (pa_cons (pv 0) (pa_cons (pe_op zaA (pv 1) pe_int) pa_nil))) pa_nil)) (pg_name (i := 9) sc.nd rfl (by first | exact .inl rfl | exact .inr rfl)) (pss_cons (ps_set (i := 10) sc.nd rfl (by first | exact .inl rfl | exact .inr rfl) (zaD G__law_off (hr.mono (by omega)) (by rfl) (pa_cons (pv 0) (pa_cons (pv 2) pa_nil)))) (pss_cons (ps_set (i := 11) sc.nd rfl (by first | exact .inl rfl | exact .inr rfl) (zaD G__law_deed (hr.mono (by omega)) (by rfl) (pa_cons (pv 0) (pa_cons pe_int pa_nil)))) (pss_cons (ps_set (i := 7) sc.nd rfl (by first | exact .inl rfl | exact .inr rfl) (pe_op zaA (pe_op zaA (pv 7) pe_int) (zaD G__law_off (hr.mono (by omega)) (by rfl) (pa_cons (pv 0) (pa_cons pe_int pa_nil))))) (pss_cons (ps_set (i := 12) sc.nd rfl (by first | exact .inl rfl | exact .inr rfl) (pe_callB (call_max2 rfl) (by rfl) T.b_max bb_max (pa_cons (pe_op zaA (zak (hu_of hr) (pv 5) (pv 10) (fun _ _ => rfl)) pe_int) (pa_cons (pe_op op_sub (pv 7) (zaD G__law_off (hr.mono (by omega)) (by rfl) (pa_cons (pv 0) (pa_cons pe_int pa_nil)))) pa_nil)))) (pss_cons (ps_set (i := 13) sc.nd rfl (by first | exact .inl rfl | exact .inr rfl) (pv 6)) (pss_cons (ps_asg (zaD G__law_done (hr.mono (by omega)) (by rfl) (pa_cons (pv 6) (pa_cons (pv 11) pa_nil))) (pg_unp (is := [15, 6]) (by rfl) (pgs_cons (pg_name (i := 15) sc.nd rfl (by first | exact .inl rfl | exact .inr rfl)) (pgs_cons (pg_name (i := 6) sc.nd rfl (by first | exact .inl rfl | exact .inr rfl)) pgs_nil)))) (pss_cons (ps_if (PW.pt (pw_and (pt_not (pt_val (pv 8))) (pw_and1 (pt_cmpR (op_eqD hr.units) (zaD G__law_off (hr.mono (by omega)) (by rfl) (pa_cons (pv 0) (pa_cons pe_int pa_nil))) pe_int (nomark _))))) (pss_one (ps_set (i := 15) sc.nd rfl (by first | exact .inl rfl | exact .inr rfl) (zak (hu_of hr) (zaD G__law_done (hr.mono (by omega)) (by rfl) (pa_cons (pe_ifExp (pt_cmpR (op_neD hr.units) (zak (hu_of hr) (pv 11) pe_int (fun _ _ => rfl)) pe_str (nomark _)) (pv 13) (pe_op op_mulA (pe_tup (pa_cons pe_int pa_nil)) pe_int)) (pa_cons (pv 11) pa_nil))) pe_int (fun _ _ => rfl)))) pss_nil) (pss_cons (zbz (u16 hr) (pv 5) (pv 10) (pe_callB (call_max2 rfl) (by rfl) T.b_max bb_max (pa_cons (pe_op zaA (pv 12) pe_int) (pa_cons (pe_op zaA (pv 7) (zaD G__law_off (hr.mono (by omega)) (by rfl) (pa_cons (pv 0) (pa_cons pe_int pa_nil)))) pa_nil)))) (pss_cons (ps_set (i := 14) sc.nd rfl (by first | exact .inl rfl | exact .inr rfl) (pe_tup (pa_cons (pe_op zaA (pv 3) (pv 10)) (pa_cons (pv 11) (pa_cons (pv 12) (pa_cons (zak (hu_of hr) (pv 5) (pv 10) (fun _ _ => rfl)) (pa_cons (pv 15) pa_nil))))))) (pss_cons (ps_if (pt_cmpR (op_eqD hr.units) (zaD G__law_off (hr.mono (by omega)) (by rfl) (pa_cons (pv 0) (pa_cons pe_int pa_nil))) pe_int (nomark _)) (pss_cons (zbz (u16 hr) (pv 5) (pv 10) (pv 12)) (pss_one (ps_set (i := 14) sc.nd rfl (by first | exact .inl rfl | exact .inr rfl) (pe_tup (pa_cons (pe_op zaA (pv 3) (pv 10)) (pa_cons (pv 11) (pa_cons (pv 12) (pa_cons pe_non (pa_cons pe_non pa_nil))))))))) pss_nil) (pss_one (ps_expr (pe_bm PySem.F.plainAttrs_list PySem.F.slot_list_append PySem.F.type_list_append mt_append (pv 4) (pa_cons (pv 14) pa_nil))))))))))))))) (pss_one (ps_ret (pv 4)))))))))))
abbrev st_is_below : Stmt := top 14
theorem sc_is_below : FnScope ["part", "bound"] ["part", "bound"] (defScope st_is_below) := ⟨rfl, rfl, rfl, by decide +kernel, rfl, by decide +kernel, by decide +kernel⟩
def t_is_below (P : Program) (w : World) (K : PySem.W.Frag) (CA : Nat → Addr) : TS := (tRet (tAndV (tCB (rIsi K) (tCons (tVar 0) (tCons (tC (.ty "int")) tNil))) (tAndV (tNotV (tCB (rIsi K) (tCons (tVar 0) (tCons (tC (.ty "bool")) tNil)))) (tChain rLeI rLtI (tC (.int 0)) (tVar 0) (tVar 1)))))
theorem sim_is_below : SimS (Wv P w K CA) (t_is_below P w K CA) (zbP) := (zao (zby (zaM (t := .int) zab) (zby (sim_not (zaM (t := .bool) zab)) (sim_chain zad zab zab sim_le sim_lt))))
theorem ok_is_below (T : Fx K mg) {f : Addr} {fd : FuncData} (F : FnP K "is_below" "is_below" st_is_below [] f fd)   : FnOk P w K mg base CX0 1 f fd ["part", "bound"] (spOf (Wv P w K CA) 2 zaj) := by
  have sc := sc_is_below
  refine fn_ok F sc fun cdv A outer s H E hr => ⟨t_is_below P w K CA, ?_, sim_is_below⟩
  exact (pss_one (ps_ret (pe_and (pe_callB call_isi (by rfl) T.b_isinstance zah (pa_cons (pv 0) (pa_cons (pe_bltn (by rfl) T.b_int bb_int rfl) pa_nil))) (pe_and (pe_not (pe_callB call_isi (by rfl) T.b_isinstance zah (pa_cons (pv 0) (pa_cons (pe_bltn (by rfl) T.b_bool bb_bool rfl) pa_nil)))) (pe_one (pe_chain op_le op_lt pe_int (pv 0) (pv 1)))))))
abbrev st_is_answer : Stmt := top 30
theorem sc_is_answer : FnScope ["deed", "answer", "worth"] ["deed", "answer"] (defScope st_is_answer) := ⟨rfl, rfl, rfl, by decide +kernel, rfl, by decide +kernel, by decide +kernel⟩
def t_is_answer (P : Program) (w : World) (K : PySem.W.Frag) (CA : Nat → Addr) : TS := (tSeq (tIfS (tTest (tOp (rEqD K) (tIxA K (tVar 0) (tC (.int 0))) (tC (.str "move")))) (tRet (tCB (rIsi K) (tCons (tVar 1) (tCons (tC (.ty "bool")) tNil)))) tNext) (tSeq (tIfS (tTest (tOp (rEqD K) (tIxA K (tVar 0) (tC (.int 0))) (tC (.str "add")))) (tRet (tCall (spOf (Wv P w K CA) 2 zaj) [] L2.E0 (tCons (tVar 1) (tCons (tC (.int 1000)) tNil)))) tNext) (tSeq (tIfS (tOr (tNot (tB (tCB (rIsi K) (tCons (tVar 1) (tCons (tC (.ty "tuple")) tNil))))) (tTest (tOp (rNeD K) (tCB (rLenA K) (tCons (tVar 1) tNil)) (tCB (rLenA K) (tCons (tIxA K (tVar 0) (tC (.int 1))) tNil))))) (tRet (tC (.bl false))) tNext) (tRet (tOp (rEqD K) (tLc (iSeq K (tVar 1)) (gName 2) (tNot (tB (tCall (spOf (Wv P w K CA) 2 zaj) [] L2.E0 (tCons (tVar 2) (tCons (tC (.int 1000)) tNil))))) (tVar 2) [2]) (tLst tNil))))))
theorem sim_is_answer : SimS (Wv P w K CA) (t_is_answer P w K CA) (zbB) := (zaf (zau (zan (zag (zam zab zad) zaq za5)) (zao (zaM (t := .bool) zab)) zap) (zaf (zau (zan (zag (zam zab zad) zaq za5)) (zao (zai (dfl := []) (zaa zab (zaa zad zac)) rfl rfl)) zap) (zaf (zau (zbk (zaZ (zav (zaM (t := .tuple) zab))) (zan (zag (zas (zaa zab zac) zbv) (zas (zaa (zam zab zad) zac) zbv) sim_ne))) (zao za9) zap) (zao (zag (zaN (js := [2]) (vs := [2]) zbp zaF (by decide) (zaZ (zav (zai (dfl := []) (zaa zab (zaa zad zac)) rfl rfl))) zab) (zaH zac) za5)))))
theorem ok_is_answer (T : Fx K mg) {f : Addr} {fd : FuncData} (F : FnP K "is_answer" "is_answer" st_is_answer [] f fd) (G_is_below : Kn P w K mg base 1 "is_below" ["part", "bound"] [] (spOf (Wv P w K CA) 2 zaj))  : FnOk P w K mg base CX0 2 f fd ["deed", "answer"] (spOf (Wv P w K CA) 2 zaI) := by
  have sc := sc_is_answer
  refine fn_ok F sc fun cdv A outer s H E hr => ⟨t_is_answer P w K CA, ?_, sim_is_answer⟩
  exact (pss_cons (ps_if (pt_cmpR (op_eqD hr.units) (zak (hu_of hr) (pv 0) pe_int (fun _ _ => rfl)) pe_str (nomark _)) (pss_one (ps_ret (pe_callB call_isi (by rfl) T.b_isinstance zah (pa_cons (pv 1) (pa_cons (pe_bltn (by rfl) T.b_bool bb_bool rfl) pa_nil))))) pss_nil) (pss_cons (ps_if (pt_cmpR (op_eqD hr.units) (zak (hu_of hr) (pv 0) pe_int (fun _ _ => rfl)) pe_str (nomark _)) (pss_one (ps_ret (zaD G_is_below (hr.mono (by omega)) (by rfl) (pa_cons (pv 1) (pa_cons pe_int pa_nil))))) pss_nil) (pss_cons (ps_if (PW.pt (pw_or (pt_not (pt_val (pe_callB call_isi (by rfl) T.b_isinstance zah (pa_cons (pv 1) (pa_cons (pe_bltn (by rfl) T.b_tuple zaL rfl) pa_nil))))) (pw_or1 (pt_cmpR (op_neD hr.units) (pe_callB zaW (by rfl) T.b_len bb_len (pa_cons (pv 1) pa_nil)) (pe_callB zaW (by rfl) T.b_len bb_len (pa_cons (zak (hu_of hr) (pv 0) pe_int (fun _ _ => rfl)) pa_nil)) (nomark _))))) (pss_one (ps_ret pe_bl)) pss_nil) (pss_one (ps_ret (pe_cmpR (op_eqD hr.units) (pe_lc (own := [("worth", 2)]) rfl sc.nd (zba (pv 1)) (blkOk_by (by kernel_rfl)) (fun _ _ _ _ _ => (pg_name (i := 2) sc.nd rfl (by first | exact .inl rfl | exact .inr rfl))) (fun _ _ _ _ _ => (pts_one (pt_not (pt_val (zaD G_is_below (hr.mono (by omega)) (by rfl) (pa_cons (pv 2) (pa_cons pe_int pa_nil))))))) (fun _ _ _ _ _ => (pv 2))) (pe_lst pa_nil) (nomark _)))))))
abbrev st_are_rising : Stmt := top 15
theorem sc_are_rising : FnScope ["files", "number"] ["files"] (defScope st_are_rising) := ⟨rfl, rfl, rfl, by decide +kernel, rfl, by decide +kernel, by decide +kernel⟩
def t_are_rising (P : Program) (w : World) (K : PySem.W.Frag) (CA : Nat → Addr) : TS := (tSeq (tIfS (tOr (tNot (tB (tCB (rIsi K) (tCons (tVar 0) (tCons (tC (.ty "tuple")) tNil))))) (tNot (tTest (tChain rLeI rLeI (tC (.int 1)) (tCB (rLenA K) (tCons (tVar 0) tNil)) (tC (.int 4)))))) (tRet (tC (.bl false))) tNext) (tSeq (tIfS (tTest (tOp (rNeD K) (tLc (iSeq K (tVar 0)) (gName 1) (tNot (tB (tCall (spOf (Wv P w K CA) 2 zaj) [] L2.E0 (tCons (tVar 1) (tCons (tC (.int 10)) tNil))))) (tVar 1) [1]) (tLst tNil))) (tRet (tC (.bl false))) tNext) (tRet (tOp (rEqD K) (tCB (rListOf K) (tCons (tVar 0) tNil)) (tCB (rSortedSet w) (tCons (tCB (rSetT K w) (tCons (tVar 0) tNil)) tNil))))))
theorem sim_are_rising : SimS (Wv P w K CA) (t_are_rising P w K CA) (zbe) := (zaf (zau (zbk (zaZ (zav (zaM (t := .tuple) zab))) (zaZ (zan (sim_chain zad (zas (zaa zab zac) zbv) zad sim_le sim_le)))) (zao za9) zap) (zaf (zau (zan (zag (zaN (js := [1]) (vs := [1]) zbp zaF (by decide) (zaZ (zav (zai (dfl := []) (zaa zab (zaa zad zac)) rfl rfl))) zab) (zaH zac) sim_ne)) (zao za9) zap) (zao (zag (zas (zaa zab zac) sim_list) (sim_sortedSet zab) za5))))
theorem ok_are_rising (T : Fx K mg) {f : Addr} {fd : FuncData} (F : FnP K "are_rising" "are_rising" st_are_rising [] f fd) (G_is_below : Kn P w K mg base 1 "is_below" ["part", "bound"] [] (spOf (Wv P w K CA) 2 zaj))  : FnOk P w K mg base CX0 2 f fd ["files"] (spOf (Wv P w K CA) 1 zaw) := by
  have sc := sc_are_rising
  refine fn_ok F sc fun cdv A outer s H E hr => ⟨t_are_rising P w K CA, ?_, sim_are_rising⟩
  exact (pss_cons (ps_if (PW.pt (pw_or (pt_not (pt_val (pe_callB call_isi (by rfl) T.b_isinstance zah (pa_cons (pv 0) (pa_cons (pe_bltn (by rfl) T.b_tuple zaL rfl) pa_nil))))) (pw_or1 (pt_not (pt_chain op_le op_le pe_int (pe_callB zaW (by rfl) T.b_len bb_len (pa_cons (pv 0) pa_nil)) (zbL T.c_MOST_FILES (by rfl))))))) (pss_one (ps_ret pe_bl)) pss_nil) (pss_cons (ps_if (pt_cmpR (op_neD hr.units) (pe_lc (own := [("number", 1)]) rfl sc.nd (zba (pv 0)) (blkOk_by (by kernel_rfl)) (fun _ _ _ _ _ => (pg_name (i := 1) sc.nd rfl (by first | exact .inl rfl | exact .inr rfl))) (fun _ _ _ _ _ => (pts_one (pt_not (pt_val (zaD G_is_below (hr.mono (by omega)) (by rfl) (pa_cons (pv 1) (pa_cons (zbL T.c_FILES (by rfl)) pa_nil))))))) (fun _ _ _ _ _ => (pv 1))) (pe_lst pa_nil) (nomark _)) (pss_one (ps_ret pe_bl)) pss_nil) (pss_one (ps_ret (pe_cmpR (op_eqD hr.units) (pe_callTy call_list_of (by rfl) T.b_list bb_list (pa_cons (pv 0) pa_nil)) (pe_callB (cr_sortedSet rfl) (by rfl) T.b_sorted bb_sorted (pa_cons (pe_callTy (call_setT rfl) (by rfl) T.b_set bb_set (pa_cons (pv 0) pa_nil)) pa_nil)) (nomark _))))))
abbrev st_are_pairs : Stmt := top 16
theorem sc_are_pairs : FnScope ["pairs", "pair"] ["pairs"] (defScope st_are_pairs) := ⟨rfl, rfl, rfl, by decide +kernel, rfl, by decide +kernel, by decide +kernel⟩
def t_are_pairs (P : Program) (w : World) (K : PySem.W.Frag) (CA : Nat → Addr) : TS := (tSeq (tIfS (tOr (tNot (tB (tCB (rIsi K) (tCons (tVar 0) (tCons (tC (.ty "tuple")) tNil))))) (tTest (tOp (rNeD K) (tLc (iSeq K (tVar 0)) (gName 1) (tOr (tNot (tB (tCB (rIsi K) (tCons (tVar 1) (tCons (tC (.ty "tuple")) tNil))))) (tTest (tOp (rNeD K) (tCB (rLenA K) (tCons (tVar 1) tNil)) (tC (.int 2))))) (tVar 1) [1]) (tLst tNil)))) (tRet (tC (.bl false))) tNext) (tSeq (tIfS (tTest (tOp (rNeD K) (tLc (iSeq K (tVar 0)) (gName 1) (tNot (tB (tCall (spOf (Wv P w K CA) 2 zaj) [] L2.E0 (tCons (tIxA K (tVar 1) (tC (.int 1))) (tCons (tC (.int 1000)) tNil))))) (tVar 1) [1]) (tLst tNil))) (tRet (tC (.bl false))) tNext) (tRet (tCall (spOf (Wv P w K CA) 1 zaw) [] L2.E0 (tCons (tCB (rTupOf K) (tCons (tLc (iSeq K (tVar 0)) (gName 1) tYes (tIxA K (tVar 1) (tC (.int 0))) [1]) tNil)) tNil)))))
theorem sim_are_pairs : SimS (Wv P w K CA) (t_are_pairs P w K CA) (zbn) := (zaf (zau (zbk (zaZ (zav (zaM (t := .tuple) zab))) (zan (zag (zaN (js := [1]) (vs := [1]) zbp zaF (by decide) (zbk (zaZ (zav (zaM (t := .tuple) zab))) (zan (zag (zas (zaa zab zac) zbv) zad sim_ne))) zab) (zaH zac) sim_ne))) (zao za9) zap) (zaf (zau (zan (zag (zaN (js := [1]) (vs := [1]) zbp zaF (by decide) (zaZ (zav (zai (dfl := []) (zaa (zam zab zad) (zaa zad zac)) rfl rfl))) zab) (zaH zac) sim_ne)) (zao za9) zap) (zao (zai (dfl := []) (zaa (zas (zaa (zaN (js := [1]) (vs := [1]) zbp zaF (by decide) zbC (zam zab zad)) zac) zbc) zac) rfl rfl))))
theorem ok_are_pairs (T : Fx K mg) {f : Addr} {fd : FuncData} (F : FnP K "are_pairs" "are_pairs" st_are_pairs [] f fd) (G_is_below : Kn P w K mg base 1 "is_below" ["part", "bound"] [] (spOf (Wv P w K CA) 2 zaj)) (G_are_rising : Kn P w K mg base 2 "are_rising" ["files"] [] (spOf (Wv P w K CA) 1 zaw))  : FnOk P w K mg base CX0 3 f fd ["pairs"] (spOf (Wv P w K CA) 1 zaK) := by
  have sc := sc_are_pairs
  refine fn_ok F sc fun cdv A outer s H E hr => ⟨t_are_pairs P w K CA, ?_, sim_are_pairs⟩
  exact (pss_cons (ps_if (PW.pt (pw_or (pt_not (pt_val (pe_callB call_isi (by rfl) T.b_isinstance zah (pa_cons (pv 0) (pa_cons (pe_bltn (by rfl) T.b_tuple zaL rfl) pa_nil))))) (pw_or1 (pt_cmpR (op_neD hr.units) (pe_lc (own := [("pair", 1)]) rfl sc.nd (zba (pv 0)) (blkOk_by (by kernel_rfl)) (fun _ _ _ _ _ => (pg_name (i := 1) sc.nd rfl (by first | exact .inl rfl | exact .inr rfl))) (fun _ _ _ _ _ => (pts_one (PW.pt (pw_or (pt_not (pt_val (pe_callB call_isi (by rfl) T.b_isinstance zah (pa_cons (pv 1) (pa_cons (pe_bltn (by rfl) T.b_tuple zaL rfl) pa_nil))))) (pw_or1 (pt_cmpR (op_neD hr.units) (pe_callB zaW (by rfl) T.b_len bb_len (pa_cons (pv 1) pa_nil)) pe_int (nomark _))))))) (fun _ _ _ _ _ => (pv 1))) (pe_lst pa_nil) (nomark _))))) (pss_one (ps_ret pe_bl)) pss_nil) (pss_cons (ps_if (pt_cmpR (op_neD hr.units) (pe_lc (own := [("pair", 1)]) rfl sc.nd (zba (pv 0)) (blkOk_by (by kernel_rfl)) (fun _ _ _ _ _ => (pg_name (i := 1) sc.nd rfl (by first | exact .inl rfl | exact .inr rfl))) (fun _ _ _ _ _ => (pts_one (pt_not (pt_val (zaD G_is_below (hr.mono (by omega)) (by rfl) (pa_cons (zak (hu_of hr) (pv 1) pe_int (fun _ _ => rfl)) (pa_cons (zbL T.c_WORTHS (by rfl)) pa_nil))))))) (fun _ _ _ _ _ => (pv 1))) (pe_lst pa_nil) (nomark _)) (pss_one (ps_ret pe_bl)) pss_nil) (pss_one (ps_ret (zaD G_are_rising (hr.mono (by omega)) (by rfl) (pa_cons (pe_callTy call_tuple_of (by rfl) T.b_tuple zaL (pa_cons (pe_lc (own := [("pair", 1)]) rfl sc.nd (zba (pv 0)) (blkOk_by (by kernel_rfl)) (fun _ _ _ _ _ => (pg_name (i := 1) sc.nd rfl (by first | exact .inl rfl | exact .inr rfl))) (fun _ _ _ _ _ => pts_nil) (fun _ _ _ _ _ => (zak (hu_of hr) (pv 1) pe_int (fun _ _ => rfl)))) pa_nil)) pa_nil))))))
abbrev st_is_deed : Stmt := top 17
theorem sc_is_deed : FnScope ["deed"] ["deed"] (defScope st_is_deed) := ⟨rfl, rfl, rfl, by decide +kernel, rfl, by decide +kernel, by decide +kernel⟩
def t_is_deed (P : Program) (w : World) (K : PySem.W.Frag) (CA : Nat → Addr) : TS := (tSeq (tIfS (tOr (tNot (tB (tCB (rIsi K) (tCons (tVar 0) (tCons (tC (.ty "tuple")) tNil))))) (tTest (tOp (rEqD K) (tVar 0) (tTup tNil)))) (tRet (tC (.bl false))) tNext) (tSeq (tIfS (tTest (tOp (rEqD K) (tIxA K (tVar 0) (tC (.int 0))) (tC (.str "look")))) (tRet (tAndV (tOp (rEqD K) (tCB (rLenA K) (tCons (tVar 0) tNil)) (tC (.int 2))) (tCall (spOf (Wv P w K CA) 1 zaw) [] L2.E0 (tCons (tIxA K (tVar 0) (tC (.int 1))) tNil)))) tNext) (tSeq (tIfS (tTest (tOp (rInA K) (tIxA K (tVar 0) (tC (.int 0))) (tTup (tCons (tC (.str "put")) (tCons (tC (.str "draft")) tNil))))) (tRet (tAndV (tOp (rEqD K) (tCB (rLenA K) (tCons (tVar 0) tNil)) (tC (.int 2))) (tCall (spOf (Wv P w K CA) 1 zaK) [] L2.E0 (tCons (tIxA K (tVar 0) (tC (.int 1))) tNil)))) tNext) (tSeq (tIfS (tTest (tOp (rInA K) (tIxA K (tVar 0) (tC (.int 0))) (tTup (tCons (tC (.str "add")) (tCons (tC (.str "wait")) tNil))))) (tRet (tAndV (tOp (rEqD K) (tCB (rLenA K) (tCons (tVar 0) tNil)) (tC (.int 3))) (tAndV (tCall (spOf (Wv P w K CA) 2 zaj) [] L2.E0 (tCons (tIxA K (tVar 0) (tC (.int 1))) (tCons (tC (.int 10)) tNil))) (tCall (spOf (Wv P w K CA) 2 zaj) [] L2.E0 (tCons (tIxA K (tVar 0) (tC (.int 2))) (tCons (tC (.int 1000)) tNil)))))) tNext) (tSeq (tIfS (tTest (tOp (rEqD K) (tIxA K (tVar 0) (tC (.int 0))) (tC (.str "save")))) (tRet (tOp (rEqD K) (tCB (rLenA K) (tCons (tVar 0) tNil)) (tC (.int 1)))) tNext) (tSeq (tIfS (tOr (tTest (tOp (rNeD K) (tIxA K (tVar 0) (tC (.int 0))) (tC (.str "move")))) (tOr (tTest (tOp (rNeD K) (tCB (rLenA K) (tCons (tVar 0) tNil)) (tC (.int 4)))) (tOr (tNot (tB (tCall (spOf (Wv P w K CA) 2 zaj) [] L2.E0 (tCons (tIxA K (tVar 0) (tC (.int 1))) (tCons (tC (.int 10)) tNil))))) (tNot (tB (tCall (spOf (Wv P w K CA) 2 zaj) [] L2.E0 (tCons (tIxA K (tVar 0) (tC (.int 2))) (tCons (tC (.int 10)) tNil)))))))) (tRet (tC (.bl false))) tNext) (tRet (tAndV (tOp (rNeD K) (tIxA K (tVar 0) (tC (.int 1))) (tIxA K (tVar 0) (tC (.int 2)))) (tCall (spOf (Wv P w K CA) 2 zaj) [] L2.E0 (tCons (tIxA K (tVar 0) (tC (.int 3))) (tCons (tC (.int 1000)) tNil)))))))))))
theorem sim_is_deed : SimS (Wv P w K CA) (t_is_deed P w K CA) (bo_is_deed) := (zaf (zau (zbk (zaZ (zav (zaM (t := .tuple) zab))) (zan (zag zab (zal zac) za5))) (zao za9) zap) (zaf (zau (zan (zag (zam zab zad) zaq za5)) (zao (zby (zag (zas (zaa zab zac) zbv) zad za5) (zai (dfl := []) (zaa (zam zab zad) zac) rfl rfl))) zap) (zaf (zau (zan (zag (zam zab zad) (zal (zaa zaq (zaa zaq zac))) sim_in)) (zao (zby (zag (zas (zaa zab zac) zbv) zad za5) (zai (dfl := []) (zaa (zam zab zad) zac) rfl rfl))) zap) (zaf (zau (zan (zag (zam zab zad) (zal (zaa zaq (zaa zaq zac))) sim_in)) (zao (zby (zag (zas (zaa zab zac) zbv) zad za5) (zby (zai (dfl := []) (zaa (zam zab zad) (zaa zad zac)) rfl rfl) (zai (dfl := []) (zaa (zam zab zad) (zaa zad zac)) rfl rfl)))) zap) (zaf (zau (zan (zag (zam zab zad) zaq za5)) (zao (zag (zas (zaa zab zac) zbv) zad za5)) zap) (zaf (zau (zbk (zan (zag (zam zab zad) zaq sim_ne)) (zbk (zan (zag (zas (zaa zab zac) zbv) zad sim_ne)) (zbk (zaZ (zav (zai (dfl := []) (zaa (zam zab zad) (zaa zad zac)) rfl rfl))) (zaZ (zav (zai (dfl := []) (zaa (zam zab zad) (zaa zad zac)) rfl rfl)))))) (zao za9) zap) (zao (zby (zag (zam zab zad) (zam zab zad) sim_ne) (zai (dfl := []) (zaa (zam zab zad) (zaa zad zac)) rfl rfl)))))))))
theorem ok_is_deed (T : Fx K mg) {f : Addr} {fd : FuncData} (F : FnP K "is_deed" "is_deed" st_is_deed [] f fd) (G_are_rising : Kn P w K mg base 2 "are_rising" ["files"] [] (spOf (Wv P w K CA) 1 zaw)) (G_are_pairs : Kn P w K mg base 3 "are_pairs" ["pairs"] [] (spOf (Wv P w K CA) 1 zaK)) (G_is_below : Kn P w K mg base 1 "is_below" ["part", "bound"] [] (spOf (Wv P w K CA) 2 zaj))  : FnOk P w K mg base CX0 4 f fd ["deed"] (spOf (Wv P w K CA) 1 zaR) := by
  have sc := sc_is_deed
  refine fn_ok F sc fun cdv A outer s H E hr => ⟨t_is_deed P w K CA, ?_, sim_is_deed⟩
  exact (pss_cons (ps_if (PW.pt (pw_or (pt_not (pt_val (pe_callB call_isi (by rfl) T.b_isinstance zah (pa_cons (pv 0) (pa_cons (pe_bltn (by rfl) T.b_tuple zaL rfl) pa_nil))))) (pw_or1 (pt_cmpR (op_eqD hr.units) (pv 0) (pe_tup pa_nil) (nomark _))))) (pss_one (ps_ret pe_bl)) pss_nil) (pss_cons (ps_if (pt_cmpR (op_eqD hr.units) (zak (hu_of hr) (pv 0) pe_int (fun _ _ => rfl)) pe_str (nomark _)) (pss_one (ps_ret (pe_and (pe_cmpR (op_eqD hr.units) (pe_callB zaW (by rfl) T.b_len bb_len (pa_cons (pv 0) pa_nil)) pe_int (nomark _)) (pe_one (zaD G_are_rising (hr.mono (by omega)) (by rfl) (pa_cons (zak (hu_of hr) (pv 0) pe_int (fun _ _ => rfl)) pa_nil)))))) pss_nil) (pss_cons (ps_if (pt_cmpR (op_inA (u65 hr)) (zak (hu_of hr) (pv 0) pe_int (fun _ _ => rfl)) (pe_tup (pa_cons pe_str (pa_cons pe_str pa_nil))) (by rfl)) (pss_one (ps_ret (pe_and (pe_cmpR (op_eqD hr.units) (pe_callB zaW (by rfl) T.b_len bb_len (pa_cons (pv 0) pa_nil)) pe_int (nomark _)) (pe_one (zaD G_are_pairs (hr.mono (by omega)) (by rfl) (pa_cons (zak (hu_of hr) (pv 0) pe_int (fun _ _ => rfl)) pa_nil)))))) pss_nil) (pss_cons (ps_if (pt_cmpR (op_inA (u65 hr)) (zak (hu_of hr) (pv 0) pe_int (fun _ _ => rfl)) (pe_tup (pa_cons pe_str (pa_cons pe_str pa_nil))) (by rfl)) (pss_one (ps_ret (pe_and (pe_cmpR (op_eqD hr.units) (pe_callB zaW (by rfl) T.b_len bb_len (pa_cons (pv 0) pa_nil)) pe_int (nomark _)) (pe_and (zaD G_is_below (hr.mono (by omega)) (by rfl) (pa_cons (zak (hu_of hr) (pv 0) pe_int (fun _ _ => rfl)) (pa_cons (zbL T.c_FILES (by rfl)) pa_nil))) (pe_one (zaD G_is_below (hr.mono (by omega)) (by rfl) (pa_cons (zak (hu_of hr) (pv 0) pe_int (fun _ _ => rfl)) (pa_cons (zbL T.c_WORTHS (by rfl)) pa_nil)))))))) pss_nil) (pss_cons (ps_if (pt_cmpR (op_eqD hr.units) (zak (hu_of hr) (pv 0) pe_int (fun _ _ => rfl)) pe_str (nomark _)) (pss_one (ps_ret (pe_cmpR (op_eqD hr.units) (pe_callB zaW (by rfl) T.b_len bb_len (pa_cons (pv 0) pa_nil)) pe_int (nomark _)))) pss_nil) (pss_cons (ps_if (PW.pt (pw_or (pt_cmpR (op_neD hr.units) (zak (hu_of hr) (pv 0) pe_int (fun _ _ => rfl)) pe_str (nomark _)) (pw_or (pt_cmpR (op_neD hr.units) (pe_callB zaW (by rfl) T.b_len bb_len (pa_cons (pv 0) pa_nil)) pe_int (nomark _)) (pw_or (pt_not (pt_val (zaD G_is_below (hr.mono (by omega)) (by rfl) (pa_cons (zak (hu_of hr) (pv 0) pe_int (fun _ _ => rfl)) (pa_cons (zbL T.c_FILES (by rfl)) pa_nil))))) (pw_or1 (pt_not (pt_val (zaD G_is_below (hr.mono (by omega)) (by rfl) (pa_cons (zak (hu_of hr) (pv 0) pe_int (fun _ _ => rfl)) (pa_cons (zbL T.c_FILES (by rfl)) pa_nil)))))))))) (pss_one (ps_ret pe_bl)) pss_nil) (pss_one (ps_ret (pe_and (pe_cmpR (op_neD hr.units) (zak (hu_of hr) (pv 0) pe_int (fun _ _ => rfl)) (zak (hu_of hr) (pv 0) pe_int (fun _ _ => rfl)) (nomark _)) (pe_one (zaD G_is_below (hr.mono (by omega)) (by rfl) (pa_cons (zak (hu_of hr) (pv 0) pe_int (fun _ _ => rfl)) (pa_cons (zbL T.c_WORTHS (by rfl)) pa_nil)))))))))))))
abbrev st_is_plain : Stmt := top 18
theorem sc_is_plain : FnScope ["deed"] ["deed"] (defScope st_is_plain) := ⟨rfl, rfl, rfl, by decide +kernel, rfl, by decide +kernel, by decide +kernel⟩
def t_is_plain (P : Program) (w : World) (K : PySem.W.Frag) (CA : Nat → Addr) : TS := (tRet (tAndV (tCall (spOf (Wv P w K CA) 1 zaR) [] L2.E0 (tCons (tVar 0) tNil)) (tOp (rInA K) (tIxA K (tVar 0) (tC (.int 0))) (tWr K [.str "look", .str "put", .str "add", .str "move"]))))
theorem sim_is_plain : SimS (Wv P w K CA) (t_is_plain P w K CA) (bo_is_plain) := (zao (zby (zai (dfl := []) (zaa zab zac) rfl rfl) (zag (zam zab zad) (sim_cst rfl) sim_in)))
theorem ok_is_plain (T : Fx K mg) {f : Addr} {fd : FuncData} (F : FnP K "is_plain" "is_plain" st_is_plain [] f fd) (G_is_deed : Kn P w K mg base 4 "is_deed" ["deed"] [] (spOf (Wv P w K CA) 1 zaR))  : FnOk P w K mg base CX0 5 f fd ["deed"] (spOf (Wv P w K CA) 1 zbr) := by
  have sc := sc_is_plain
  refine fn_ok F sc fun cdv A outer s H E hr => ⟨t_is_plain P w K CA, ?_, sim_is_plain⟩
  exact (pss_one (ps_ret (pe_and (zaD G_is_deed (hr.mono (by omega)) (by rfl) (pa_cons (pv 0) pa_nil)) (pe_one (pe_cmpR (op_inA (u65 hr)) (zak (hu_of hr) (pv 0) pe_int (fun _ _ => rfl)) (pe_gtup T.c_PLAIN (by rfl)) (by rfl))))))
abbrev st_is_row : Stmt := top 24
theorem sc_is_row : FnScope ["row", "user", "deed", "begin", "end", "answer"] ["row"] (defScope st_is_row) := ⟨rfl, rfl, rfl, by decide +kernel, rfl, by decide +kernel, by decide +kernel⟩
def t_is_row (P : Program) (w : World) (K : PySem.W.Frag) (CA : Nat → Addr) : TS := (tSeq (tIfS (tOr (tNot (tB (tCB (rIsi K) (tCons (tVar 0) (tCons (tC (.ty "tuple")) tNil))))) (tOr (tTest (tOp (rNeD K) (tCB (rLenA K) (tCons (tVar 0) tNil)) (tC (.int 5)))) (tNot (tB (tCall (spOf (Wv P w K CA) 1 zbr) [] L2.E0 (tCons (tIxA K (tVar 0) (tC (.int 1))) tNil)))))) (tRet (tC (.bl false))) tNext) (tSeq (tAsg (tVar 0) (gUnp K [1, 2, 3, 4, 5])) (tSeq (tIfS (tOr (tNot (tB (tCall (spOf (Wv P w K CA) 2 zaj) [] L2.E0 (tCons (tVar 1) (tCons (tC (.int 100)) tNil))))) (tNot (tB (tCall (spOf (Wv P w K CA) 2 zaj) [] L2.E0 (tCons (tVar 3) (tCons (tC (.int 10000)) tNil)))))) (tRet (tC (.bl false))) tNext) (tSeq (tIfS (tB (tIsN (tVar 4))) (tRet (tIsN (tVar 5))) tNext) (tRet (tAndV (tCall (spOf (Wv P w K CA) 2 zaj) [] L2.E0 (tCons (tVar 4) (tCons (tC (.int 10000)) tNil))) (tAndV (tOp rLtI (tVar 3) (tVar 4)) (tCall (spOf (Wv P w K CA) 2 zaI) [] L2.E0 (tCons (tVar 2) (tCons (tVar 5) tNil))))))))))
theorem sim_is_row : SimS (Wv P w K CA) (t_is_row P w K CA) (bo_is_row) := (zaf (zau (zbk (zaZ (zav (zaM (t := .tuple) zab))) (zbk (zan (zag (zas (zaa zab zac) zbv) zad sim_ne)) (zaZ (zav (zai (dfl := []) (zaa (zam zab zad) zac) rfl rfl))))) (zao za9) zap) (zaf (simS_unp zab) (zaf (zau (zbk (zaZ (zav (zai (dfl := []) (zaa zab (zaa zad zac)) rfl rfl))) (zaZ (zav (zai (dfl := []) (zaa zab (zaa zad zac)) rfl rfl)))) (zao za9) zap) (zaf (zau (zav (sim_isN zab)) (zao (sim_isN zab)) zap) (zao (zby (zai (dfl := []) (zaa zab (zaa zad zac)) rfl rfl) (zby (zag zab zab sim_lt) (zai (dfl := []) (zaa zab (zaa zab zac)) rfl rfl))))))))
theorem ok_is_row (T : Fx K mg) {f : Addr} {fd : FuncData} (F : FnP K "is_row" "is_row" st_is_row [] f fd) (G_is_plain : Kn P w K mg base 5 "is_plain" ["deed"] [] (spOf (Wv P w K CA) 1 zbr)) (G_is_below : Kn P w K mg base 1 "is_below" ["part", "bound"] [] (spOf (Wv P w K CA) 2 zaj)) (G_is_answer : Kn P w K mg base 2 "is_answer" ["deed", "answer"] [] (spOf (Wv P w K CA) 2 zaI))  : FnOk P w K mg base CX0 6 f fd ["row"] (spOf (Wv P w K CA) 1 zaV) := by
  have sc := sc_is_row
  refine fn_ok F sc fun cdv A outer s H E hr => ⟨t_is_row P w K CA, ?_, sim_is_row⟩
  exact (pss_cons (ps_if (PW.pt (pw_or (pt_not (pt_val (pe_callB call_isi (by rfl) T.b_isinstance zah (pa_cons (pv 0) (pa_cons (pe_bltn (by rfl) T.b_tuple zaL rfl) pa_nil))))) (pw_or (pt_cmpR (op_neD hr.units) (pe_callB zaW (by rfl) T.b_len bb_len (pa_cons (pv 0) pa_nil)) pe_int (nomark _)) (pw_or1 (pt_not (pt_val (zaD G_is_plain (hr.mono (by omega)) (by rfl) (pa_cons (zak (hu_of hr) (pv 0) pe_int (fun _ _ => rfl)) pa_nil)))))))) (pss_one (ps_ret pe_bl)) pss_nil) (pss_cons (ps_asg (pv 0) (pg_unp (is := [1, 2, 3, 4, 5]) (by rfl) (pgs_cons (pg_name (i := 1) sc.nd rfl (by first | exact .inl rfl | exact .inr rfl)) (pgs_cons (pg_name (i := 2) sc.nd rfl (by first | exact .inl rfl | exact .inr rfl)) (pgs_cons (pg_name (i := 3) sc.nd rfl (by first | exact .inl rfl | exact .inr rfl)) (pgs_cons (pg_name (i := 4) sc.nd rfl (by first | exact .inl rfl | exact .inr rfl)) (pgs_cons (pg_name (i := 5) sc.nd rfl (by first | exact .inl rfl | exact .inr rfl)) pgs_nil))))))) (pss_cons (ps_if (PW.pt (pw_or (pt_not (pt_val (zaD G_is_below (hr.mono (by omega)) (by rfl) (pa_cons (pv 1) (pa_cons (zbL T.c_USERS (by rfl)) pa_nil))))) (pw_or1 (pt_not (pt_val (zaD G_is_below (hr.mono (by omega)) (by rfl) (pa_cons (pv 3) (pa_cons (zbL T.c_MOMENTS (by rfl)) pa_nil)))))))) (pss_one (ps_ret pe_bl)) pss_nil) (pss_cons (ps_if (pt_cmp (pc_isN (pv 4)) rfl) (pss_one (ps_ret (pe_cmp (pc_isN (pv 5)) rfl))) pss_nil) (pss_one (ps_ret (pe_and (zaD G_is_below (hr.mono (by omega)) (by rfl) (pa_cons (pv 4) (pa_cons (zbL T.c_MOMENTS (by rfl)) pa_nil))) (pe_and (pe_cmpR op_lt (pv 3) (pv 4) (nomark _)) (pe_one (zaD G_is_answer (hr.mono (by omega)) (by rfl) (pa_cons (pv 2) (pa_cons (pv 5) pa_nil))))))))))))
abbrev za8 : Stmt := top 25
theorem sc_need_history : FnScope ["rows", "ends", "number", "row"] ["rows"] (defScope za8) := ⟨rfl, rfl, rfl, by decide +kernel, rfl, by decide +kernel, by decide +kernel⟩
def t_need_history (P : Program) (w : World) (K : PySem.W.Frag) (CA : Nat → Addr) : TS := (tSeq (tAsg tDNewK (gName 1)) (tFor (iEnum K (tCons (tVar 0) tNil)) (gTup K 2 (gNames [2, 3])) (tSeq (tIfS (tOr (tTest (tOp rGeI (tVar 2) (tC (.int 12)))) (tNot (tB (tCall (spOf (Wv P w K CA) 1 zaV) [] L2.E0 (tCons (tVar 3) tNil))))) tNever tNext) (tSeq (tIfS (tAnd (tTest (tOp (rInA K) (tIxA K (tVar 3) (tC (.int 0))) (tVar 1))) (tTest (tOp rGeI (tIxA K (tVar 1) (tIxA K (tVar 3) (tC (.int 0)))) (tIxA K (tVar 3) (tC (.int 2)))))) tNever tNext) (tSet (tVar 1) (tIxA K (tVar 3) (tC (.int 0))) (tIf (tB (tIsN (tIxA K (tVar 3) (tC (.int 3))))) (tIxA K (tVar 3) (tC (.int 2))) (tIxA K (tVar 3) (tC (.int 3)))))))))
theorem sim_need_history : SimS (Wv P w K CA) (t_need_history P w K CA) (bo_need_history) := (zaf (zar sim_dnewK) (zbD simI_enumV (tg_tup (is := [2, 3])) (zaf (zau (zbk (zan (zag zab zad sim_ge)) (zaZ (zav (zai (dfl := []) (zaa zab zac) rfl rfl)))) simS_fail zap) (zaf (zau (simT_and (zan (zag (zam zab zad) zab sim_in)) (zan (zag (zam zab (zam zab zad)) (zam zab zad) sim_ge))) simS_fail zap) (zbl (zam zab zad) (sim_if (zav (sim_isN (zam zab zad))) (zam zab zad) (zam zab zad)))))))
theorem ok_need_history (T : Fx K mg) {f : Addr} {fd : FuncData} (F : FnP K "need_history" "need_history" za8 [] f fd) (G_is_row : Kn P w K mg base 6 "is_row" ["row"] [] (spOf (Wv P w K CA) 1 zaV))  : FnOk P w K mg base CX0 7 f fd ["rows"] (spOf (Wv P w K CA) 1 zaE) := by
  have sc := sc_need_history
  refine fn_ok F sc fun cdv A outer s H E hr => ⟨t_need_history P w K CA, ?_, sim_need_history⟩
  exact (pss_cons (ps_set (i := 1) sc.nd rfl (by first | exact .inl rfl | exact .inr rfl) pe_dnewK) (pss_one (ps_for PassesOwn.never rfl (pi_enum (by rfl) T.b_enumerate (pa_cons (pv 0) pa_nil)) (pg_tup (by rfl) (pgs_cons (pg_name (i := 2) sc.nd rfl (by first | exact .inl rfl | exact .inr rfl)) (pgs_cons (pg_name (i := 3) sc.nd rfl (by first | exact .inl rfl | exact .inr rfl)) pgs_nil))) (pss_cons (ps_if (PW.pt (pw_or (pt_cmpR op_ge (pv 2) (zbL T.c_MOST_ROWS (by rfl)) (nomark _)) (pw_or1 (pt_not (pt_val (zaD G_is_row (hr.mono (by omega)) (by rfl) (pa_cons (pv 3) pa_nil))))))) (pss_one ps_never) pss_nil) (pss_cons (ps_if (PW.pt (pw_and (pt_cmpR (op_inA (u65 hr)) (zak (hu_of hr) (pv 3) pe_int (fun _ _ => rfl)) (pv 1) (by rfl)) (pw_and1 (pt_cmpR op_ge (zak (hu_of hr) (pv 1) (zak (hu_of hr) (pv 3) pe_int (fun _ _ => rfl)) (fun _ _ => rfl)) (zak (hu_of hr) (pv 3) pe_int (fun _ _ => rfl)) (nomark _))))) (pss_one ps_never) pss_nil) (pss_one (zbz (u16 hr) (pv 1) (zak (hu_of hr) (pv 3) pe_int (fun _ _ => rfl)) (pe_ifExp (pt_cmp (pc_isN (zak (hu_of hr) (pv 3) pe_int (fun _ _ => rfl))) rfl) (zak (hu_of hr) (pv 3) pe_int (fun _ _ => rfl)) (zak (hu_of hr) (pv 3) pe_int (fun _ _ => rfl))))))))))
abbrev zbM : Stmt := top 26
theorem sc_may_be_next : FnScope ["rows", "left", "ends", "number", "end"] ["rows", "left"] (defScope zbM) := ⟨rfl, rfl, rfl, by decide +kernel, rfl, by decide +kernel, by decide +kernel⟩
def t_may_be_next (P : Program) (w : World) (K : PySem.W.Frag) (CA : Nat → Addr) : TS := (tSeq (tAsg (tLc (iSeq K (tVar 1)) (gName 3) (tB (tNotN (tIxA K (tIxA K (tVar 0) (tVar 3)) (tC (.int 3))))) (tIxA K (tIxA K (tVar 0) (tVar 3)) (tC (.int 3))) [3]) (gName 2)) (tRet (tLc (iSeq K (tVar 1)) (gName 3) (tTest (tOp (rEqD K) (tLc (iSeq K (tVar 2)) (gName 4) (tTest (tOp rLtI (tVar 4) (tIxA K (tIxA K (tVar 0) (tVar 3)) (tC (.int 2))))) (tVar 4) [4]) (tLst tNil))) (tVar 3) [3])))
theorem sim_may_be_next : SimS (Wv P w K CA) (t_may_be_next P w K CA) (bo_may_be_next) := (zaf (zar (zaN (js := [3]) (vs := [3]) zbp zaF (by decide) (zav (sim_notN (zam (zam zab zab) zad))) (zam (zam zab zab) zad))) (zao (zaN (js := [3]) (vs := [3]) zbp zaF (by decide) (zan (zag (zaN (js := [4]) (vs := [4]) zbp zaF (by decide) (zan (zag zab (zam (zam zab zab) zad) sim_lt)) zab) (zaH zac) za5)) zab)))
theorem ok_may_be_next (T : Fx K mg) {f : Addr} {fd : FuncData} (F : FnP K "may_be_next" "may_be_next" zbM [] f fd)   : FnOk P w K mg base CX0 1 f fd ["rows", "left"] (spOf (Wv P w K CA) 2 zbg) := by
  have sc := sc_may_be_next
  refine fn_ok F sc fun cdv A outer s H E hr => ⟨t_may_be_next P w K CA, ?_, sim_may_be_next⟩
  exact (pss_cons (ps_set (i := 2) sc.nd rfl (by first | exact .inl rfl | exact .inr rfl) (pe_lc (own := [("number", 3)]) rfl sc.nd (zba (pv 1)) (blkOk_by (by kernel_rfl)) (fun _ _ _ _ _ => (pg_name (i := 3) sc.nd rfl (by first | exact .inl rfl | exact .inr rfl))) (fun _ _ _ _ _ => (pts_one (pt_cmp (pc_notN (zak (hu_of hr) (zak (hu_of hr) (pv 0) (pv 3) (fun _ _ => rfl)) pe_int (fun _ _ => rfl))) rfl))) (fun _ _ _ _ _ => (zak (hu_of hr) (zak (hu_of hr) (pv 0) (pv 3) (fun _ _ => rfl)) pe_int (fun _ _ => rfl))))) (pss_one (ps_ret (pe_lc (own := [("number", 3)]) rfl sc.nd (zba (pv 1)) (blkOk_by (by kernel_rfl)) (fun _ _ _ _ _ => (pg_name (i := 3) sc.nd rfl (by first | exact .inl rfl | exact .inr rfl))) (fun _ _ _ _ _ => (pts_one (pt_cmpR (op_eqD hr.units) (pe_lc (own := [("end", 4)]) rfl sc.nd (zba (pv 2)) (blkOk_by (by kernel_rfl)) (fun _ _ _ _ _ => (pg_name (i := 4) sc.nd rfl (by first | exact .inl rfl | exact .inr rfl))) (fun _ _ _ _ _ => (pts_one (pt_cmpR op_lt (pv 4) (zak (hu_of hr) (zak (hu_of hr) (pv 0) (pv 3) (fun _ _ => rfl)) pe_int (fun _ _ => rfl)) (nomark _)))) (fun _ _ _ _ _ => (pv 4))) (pe_lst pa_nil) (nomark _)))) (fun _ _ _ _ _ => (pv 3))))))
abbrev st_done : Stmt := top 19
theorem sc_done : FnScope ["worths", "deed", "found", "word", "one", "other", "many", "number", "worth"] ["worths", "deed"] (defScope st_done) := ⟨rfl, rfl, rfl, by decide +kernel, rfl, by decide +kernel, by decide +kernel⟩
def t_done (P : Program) (w : World) (K : PySem.W.Frag) (CA : Nat → Addr) : TS := (tSeq (tAsg (tCB (rListOf K) (tCons (tVar 0) tNil)) (gName 2)) (tSeq (tIfS (tTest (tOp (rEqD K) (tIxA K (tVar 1) (tC (.int 0))) (tC (.str "look")))) (tRet (tTup (tCons (tCB (rTupOf K) (tCons (tLc (iSeq K (tIxA K (tVar 1) (tC (.int 1)))) (gName 7) tYes (tIxA K (tVar 0) (tVar 7)) [7]) tNil)) (tCons (tVar 0) tNil)))) tNext) (tSeq (tIfS (tTest (tOp (rInA K) (tIxA K (tVar 1) (tC (.int 0))) (tTup (tCons (tC (.str "put")) (tCons (tC (.str "draft")) tNil))))) (tSeq (tFor (iSeq K (tIxA K (tVar 1) (tC (.int 1)))) (gTup K 2 (gNames [7, 8])) (tSet (tVar 2) (tVar 7) (tVar 8))) (tRet (tTup (tCons (tCB (rTupOf K) (tCons (tLc (iSeq K (tIxA K (tVar 1) (tC (.int 1)))) (gTup K 2 (gNames [7, 8])) tYes (tIxA K (tVar 0) (tVar 7)) [7, 8]) tNil)) (tCons (tCB (rTupOf K) (tCons (tVar 2) tNil)) tNil))))) tNext) (tSeq (tIfS (tTest (tOp (rEqD K) (tIxA K (tVar 1) (tC (.int 0))) (tC (.str "add")))) (tSeq (tSet (tVar 2) (tIxA K (tVar 1) (tC (.int 1))) (tOp rModI (tOp (rAddA K) (tIxA K (tVar 0) (tIxA K (tVar 1) (tC (.int 1)))) (tIxA K (tVar 1) (tC (.int 2)))) (tC (.int 1000)))) (tRet (tTup (tCons (tIxA K (tVar 2) (tIxA K (tVar 1) (tC (.int 1)))) (tCons (tCB (rTupOf K) (tCons (tVar 2) tNil)) tNil))))) tNext) (tSeq (tAsg (tVar 1) (gUnp K [3, 4, 5, 6])) (tSeq (tIfS (tOr (tTest (tOp rLtI (tIxA K (tVar 0) (tVar 4)) (tVar 6))) (tTest (tOp rGeI (tOp (rAddA K) (tIxA K (tVar 0) (tVar 5)) (tVar 6)) (tC (.int 1000))))) (tRet (tTup (tCons (tC (.bl false)) (tCons (tVar 0) tNil)))) tNext) (tSeq (tSet (tVar 2) (tVar 4) (tOp rSubI (tIxA K (tVar 0) (tVar 4)) (tVar 6))) (tSeq (tSet (tVar 2) (tVar 5) (tOp (rAddA K) (tIxA K (tVar 0) (tVar 5)) (tVar 6))) (tRet (tTup (tCons (tC (.bl true)) (tCons (tCB (rTupOf K) (tCons (tVar 2) tNil)) tNil))))))))))))
theorem sim_done : SimS (Wv P w K CA) (t_done P w K CA) (bo_done) := (zaf (zar (zas (zaa zab zac) sim_list)) (zaf (zau (zan (zag (zam zab zad) zaq za5)) (zao (zal (zaa (zas (zaa (zaN (js := [7]) (vs := [7]) (za0 (zam zab zad)) zaF (by decide) zbC (zam zab zab)) zac) zbc) (zaa zab zac)))) zap) (zaf (zau (zan (zag (zam zab zad) (zal (zaa zaq (zaa zaq zac))) sim_in)) (zaf (zbD (za0 (zam zab zad)) (tg_tup (is := [7, 8])) (zbl zab zab)) (zao (zal (zaa (zas (zaa (zaN (js := [7, 8]) (vs := [7, 8]) (za0 (zam zab zad)) simG_tup (by decide) zbC (zam zab zab)) zac) zbc) (zaa (zas (zaa zab zac) zbc) zac))))) zap) (zaf (zau (zan (zag (zam zab zad) zaq za5)) (zaf (zbl (zam zab zad) (zag (zag (zam zab (zam zab zad)) (zam zab zad) zaz) zad sim_mod)) (zao (zal (zaa (zam zab (zam zab zad)) (zaa (zas (zaa zab zac) zbc) zac))))) zap) (zaf (simS_unp zab) (zaf (zau (zbk (zan (zag (zam zab zab) zab sim_lt)) (zan (zag (zag (zam zab zab) zab zaz) zad sim_ge))) (zao (zal (zaa za9 (zaa zab zac)))) zap) (zaf (zbl zab (zag (zam zab zab) zab sim_sub)) (zaf (zbl zab (zag (zam zab zab) zab zaz)) (zao (zal (zaa za9 (zaa (zas (zaa zab zac) zbc) zac))))))))))))
theorem ok_done (T : Fx K mg) {f : Addr} {fd : FuncData} (F : FnP K "done" "done" st_done [] f fd)   : FnOk P w K mg base CX0 1 f fd ["worths", "deed"] (spOf (Wv P w K CA) 2 ev_done) := by
  have sc := sc_done
  refine fn_ok F sc fun cdv A outer s H E hr => ⟨t_done P w K CA, ?_, sim_done⟩
  exact (pss_cons (ps_set (i := 2) sc.nd rfl (by first | exact .inl rfl | exact .inr rfl) (pe_callTy call_list_of (by rfl) T.b_list bb_list (pa_cons (pv 0) pa_nil))) (pss_cons (ps_if (pt_cmpR (op_eqD hr.units) (zak (hu_of hr) (pv 1) pe_int (fun _ _ => rfl)) pe_str (nomark _)) (pss_one (ps_ret (pe_tup (pa_cons (pe_callTy call_tuple_of (by rfl) T.b_tuple zaL (pa_cons (pe_lc (own := [("number", 7)]) rfl sc.nd (zba (zak (hu_of hr) (pv 1) pe_int (fun _ _ => rfl))) (blkOk_by (by kernel_rfl)) (fun _ _ _ _ _ => (pg_name (i := 7) sc.nd rfl (by first | exact .inl rfl | exact .inr rfl))) (fun _ _ _ _ _ => pts_nil) (fun _ _ _ _ _ => (zak (hu_of hr) (pv 0) (pv 7) (fun _ _ => rfl)))) pa_nil)) (pa_cons (pv 0) pa_nil))))) pss_nil) (pss_cons (ps_if (pt_cmpR (op_inA (u65 hr)) (zak (hu_of hr) (pv 1) pe_int (fun _ _ => rfl)) (pe_tup (pa_cons pe_str (pa_cons pe_str pa_nil))) (by rfl)) (pss_cons (ps_for PassesOwn.never rfl (zba (zak (hu_of hr) (pv 1) pe_int (fun _ _ => rfl))) (pg_tup (by rfl) (pgs_cons (pg_name (i := 7) sc.nd rfl (by first | exact .inl rfl | exact .inr rfl)) (pgs_cons (pg_name (i := 8) sc.nd rfl (by first | exact .inl rfl | exact .inr rfl)) pgs_nil))) (pss_one (zbz (u16 hr) (pv 2) (pv 7) (pv 8)))) (pss_one (ps_ret (pe_tup (pa_cons (pe_callTy call_tuple_of (by rfl) T.b_tuple zaL (pa_cons (pe_lc (own := [("number", 7), ("worth", 8)]) rfl sc.nd (zba (zak (hu_of hr) (pv 1) pe_int (fun _ _ => rfl))) (blkOk_by (by kernel_rfl)) (fun _ _ _ _ _ => (pg_tup (by rfl) (pgs_cons (pg_name (i := 7) sc.nd rfl (by first | exact .inl rfl | exact .inr rfl)) (pgs_cons (pg_name (i := 8) sc.nd rfl (by first | exact .inl rfl | exact .inr rfl)) pgs_nil)))) (fun _ _ _ _ _ => pts_nil) (fun _ _ _ _ _ => (zak (hu_of hr) (pv 0) (pv 7) (fun _ _ => rfl)))) pa_nil)) (pa_cons (pe_callTy call_tuple_of (by rfl) T.b_tuple zaL (pa_cons (pv 2) pa_nil)) pa_nil)))))) pss_nil) (pss_cons (ps_if (pt_cmpR (op_eqD hr.units) (zak (hu_of hr) (pv 1) pe_int (fun _ _ => rfl)) pe_str (nomark _)) (pss_cons (zbz (u16 hr) (pv 2) (zak (hu_of hr) (pv 1) pe_int (fun _ _ => rfl)) (pe_op op_mod (pe_op zaA (zak (hu_of hr) (pv 0) (zak (hu_of hr) (pv 1) pe_int (fun _ _ => rfl)) (fun _ _ => rfl)) (zak (hu_of hr) (pv 1) pe_int (fun _ _ => rfl))) (zbL T.c_WORTHS (by rfl)))) (pss_one (ps_ret (pe_tup (pa_cons (zak (hu_of hr) (pv 2) (zak (hu_of hr) (pv 1) pe_int (fun _ _ => rfl)) (fun _ _ => rfl)) (pa_cons (pe_callTy call_tuple_of (by rfl) T.b_tuple zaL (pa_cons (pv 2) pa_nil)) pa_nil)))))) pss_nil) (pss_cons (ps_asg (pv 1) (pg_unp (is := [3, 4, 5, 6]) (by rfl) (pgs_cons (pg_name (i := 3) sc.nd rfl (by first | exact .inl rfl | exact .inr rfl)) (pgs_cons (pg_name (i := 4) sc.nd rfl (by first | exact .inl rfl | exact .inr rfl)) (pgs_cons (pg_name (i := 5) sc.nd rfl (by first | exact .inl rfl | exact .inr rfl)) (pgs_cons (pg_name (i := 6) sc.nd rfl (by first | exact .inl rfl | exact .inr rfl)) pgs_nil)))))) (pss_cons (ps_if (PW.pt (pw_or (pt_cmpR op_lt (zak (hu_of hr) (pv 0) (pv 4) (fun _ _ => rfl)) (pv 6) (nomark _)) (pw_or1 (pt_cmpR op_ge (pe_op zaA (zak (hu_of hr) (pv 0) (pv 5) (fun _ _ => rfl)) (pv 6)) (zbL T.c_WORTHS (by rfl)) (nomark _))))) (pss_one (ps_ret (pe_tup (pa_cons pe_bl (pa_cons (pv 0) pa_nil))))) pss_nil) (pss_cons (zbz (u16 hr) (pv 2) (pv 4) (pe_op op_sub (zak (hu_of hr) (pv 0) (pv 4) (fun _ _ => rfl)) (pv 6))) (pss_cons (zbz (u16 hr) (pv 2) (pv 5) (pe_op zaA (zak (hu_of hr) (pv 0) (pv 5) (fun _ _ => rfl)) (pv 6))) (pss_one (ps_ret (pe_tup (pa_cons pe_bl (pa_cons (pe_callTy call_tuple_of (by rfl) T.b_tuple zaL (pa_cons (pv 2) pa_nil)) pa_nil)))))))))))))
abbrev st_like : Stmt := top 27
theorem sc_like : FnScope ["one", "other"] ["one", "other"] (defScope st_like) := ⟨rfl, rfl, rfl, by decide +kernel, rfl, by decide +kernel, by decide +kernel⟩
def t_like (P : Program) (w : World) (K : PySem.W.Frag) (CA : Nat → Addr) : TS := (tRet (tAndV (tOp (rEqD K) (tVar 0) (tVar 1)) (tOp (rEqD K) (tCB (rIsi K) (tCons (tVar 0) (tCons (tC (.ty "bool")) tNil))) (tCB (rIsi K) (tCons (tVar 1) (tCons (tC (.ty "bool")) tNil))))))
theorem sim_like : SimS (Wv P w K CA) (t_like P w K CA) (bo_like) := (zao (zby (zag zab zab za5) (zag (zaM (t := .bool) zab) (zaM (t := .bool) zab) za5)))
theorem ok_like (T : Fx K mg) {f : Addr} {fd : FuncData} (F : FnP K "like" "like" st_like [] f fd)   : FnOk P w K mg base CX0 1 f fd ["one", "other"] (spOf (Wv P w K CA) 2 ev_like) := by
  have sc := sc_like
  refine fn_ok F sc fun cdv A outer s H E hr => ⟨t_like P w K CA, ?_, sim_like⟩
  exact (pss_one (ps_ret (pe_and (pe_cmpR (op_eqD hr.units) (pv 0) (pv 1) (nomark _)) (pe_one (pe_cmpR (op_eqD hr.units) (pe_callB call_isi (by rfl) T.b_isinstance zah (pa_cons (pv 0) (pa_cons (pe_bltn (by rfl) T.b_bool bb_bool rfl) pa_nil))) (pe_callB call_isi (by rfl) T.b_isinstance zah (pa_cons (pv 1) (pa_cons (pe_bltn (by rfl) T.b_bool bb_bool rfl) pa_nil))) (nomark _))))))
abbrev st_order_of : Stmt := top 28
theorem sc_order_of : FnScope ["rows", "left", "worths", "dead", "number", "answer", "behind", "rest", "order", "one"] ["rows", "left", "worths", "dead"] (defScope st_order_of) := ⟨rfl, rfl, rfl, by decide +kernel, rfl, by decide +kernel, by decide +kernel⟩
def t_order_of (P : Program) (w : World) (K : PySem.W.Frag) (CA : Nat → Addr) (run : Ru) : TS := (tSeq (tIfS (tTest (tOp (rEqD K) (tLc (iSeq K (tVar 1)) (gName 4) (tB (tNotN (tIxA K (tIxA K (tVar 0) (tVar 4)) (tC (.int 3))))) (tVar 4) [4]) (tLst tNil))) (tRet (tLst tNil)) tNext) (tSeq (tIfS (tTest (tOp (rInA K) (tTup (tCons (tVar 1) (tCons (tVar 2) tNil))) (tVar 3))) (tRet (tC (.non))) tNext) (tSeq (tFor (iSeq K (tCall (spOf (Wv P w K CA) 2 zbg) [] L2.E0 (tCons (tVar 0) (tCons (tVar 1) tNil)))) (gName 4) (tSeq (tAsg (tCall (spOf (Wv P w K CA) 2 ev_done) [] L2.E0 (tCons (tVar 2) (tCons (tIxA K (tIxA K (tVar 0) (tVar 4)) (tC (.int 1))) tNil))) (gUnp K [5, 6])) (tIfS (tOr (tB (tIsN (tIxA K (tIxA K (tVar 0) (tVar 4)) (tC (.int 3))))) (tB (tCall (spOf (Wv P w K CA) 2 ev_like) [] L2.E0 (tCons (tIxA K (tIxA K (tVar 0) (tVar 4)) (tC (.int 4))) (tCons (tVar 5) tNil))))) (tSeq (tAsg (tCB (rTupOf K) (tCons (tLc (iSeq K (tVar 1)) (gName 9) (tTest (tOp (rNeD K) (tVar 9) (tVar 4))) (tVar 9) [9]) tNil)) (gName 7)) (tSeq (tAsg (tCall (spOf (Wv P w K CA) 4 run) [] L2.E0 (tCons (tVar 0) (tCons (tVar 7) (tCons (tVar 6) (tCons (tVar 3) tNil))))) (gName 8)) (tIfS (tB (tNotN (tVar 8))) (tRet (tOp (rAddA K) (tLst (tCons (tVar 4) tNil)) (tVar 8))) tNext))) tNext))) (tSeq (tSet (tVar 3) (tTup (tCons (tVar 1) (tCons (tVar 2) tNil))) (tC (.bl true))) (tRet (tC (.non)))))))
theorem sim_order_of (run : Ru) : SimS (Wv P w K CA) (t_order_of P w K CA run) (bo_order_of run) := (zaf (zau (zan (zag (zaN (js := [4]) (vs := [4]) zbp zaF (by decide) (zav (sim_notN (zam (zam zab zab) zad))) zab) (zaH zac) za5)) (zao (zaH zac)) zap) (zaf (zau (zan (zag (zal (zaa zab (zaa zab zac))) zab sim_in)) (zao zbo) zap) (zaf (zbD (za0 (zai (dfl := []) (zaa zab (zaa zab zac)) rfl rfl)) tg_name (zaf (simS_unp (zai (dfl := []) (zaa zab (zaa (zam (zam zab zab) zad) zac)) rfl rfl)) (zau (zbk (zav (sim_isN (zam (zam zab zab) zad))) (zav (zai (dfl := []) (zaa (zam (zam zab zab) zad) (zaa zab zac)) rfl rfl))) (zaf (zar (zas (zaa (zaN (js := [9]) (vs := [9]) zbp zaF (by decide) (zan (zag zab zab sim_ne)) zab) zac) zbc)) (zaf (zar (zai (dfl := []) (zaa zab (zaa zab (zaa zab (zaa zab zac)))) rfl rfl)) (zau (zav (sim_notN zab)) (zao (zag (zaH (zaa zab zac)) zab zaz)) zap))) zap))) (zaf (simS_set zab (zal (zaa zab (zaa zab zac))) za9) (zao zbo)))))
theorem ok_order_of (T : Fx K mg) {f : Addr} {fd : FuncData} (F : FnP K "order_of" "order_of" st_order_of [] f fd) (G_may_be_next : Kn P w K mg base 1 "may_be_next" ["rows", "left"] [] (spOf (Wv P w K CA) 2 zbg)) (G_done : Kn P w K mg base 1 "done" ["worths", "deed"] [] (spOf (Wv P w K CA) 2 ev_done)) (G_like : Kn P w K mg base 1 "like" ["one", "other"] [] (spOf (Wv P w K CA) 2 ev_like)) (run : Ru) {n : Nat} (G_order_of : Kn P w K mg base (2 + n) "order_of" ["rows", "left", "worths", "dead"] [] (spOf (Wv P w K CA) 4 run)) : FnOk P w K mg base CX0 (2 + n + 1) f fd ["rows", "left", "worths", "dead"] (spOf (Wv P w K CA) 4 (runOf 10 (bo_order_of run))) := by
  have sc := sc_order_of
  refine fn_ok F sc fun cdv A outer s H E hr => ⟨t_order_of P w K CA run, ?_, sim_order_of run⟩
  exact (pss_cons (ps_if (pt_cmpR (op_eqD hr.units) (pe_lc (own := [("number", 4)]) rfl sc.nd (zba (pv 1)) (blkOk_by (by kernel_rfl)) (fun _ _ _ _ _ => (pg_name (i := 4) sc.nd rfl (by first | exact .inl rfl | exact .inr rfl))) (fun _ _ _ _ _ => (pts_one (pt_cmp (pc_notN (zak (hu_of hr) (zak (hu_of hr) (pv 0) (pv 4) (fun _ _ => rfl)) pe_int (fun _ _ => rfl))) rfl))) (fun _ _ _ _ _ => (pv 4))) (pe_lst pa_nil) (nomark _)) (pss_one (ps_ret (pe_lst pa_nil))) pss_nil) (pss_cons (ps_if (pt_cmpR (op_inA (u65 hr)) (pe_tup (pa_cons (pv 1) (pa_cons (pv 2) pa_nil))) (pv 3) (by rfl)) (pss_one (ps_ret pe_non)) pss_nil) (pss_cons (ps_for PassesOwn.never rfl (zba (zaD G_may_be_next (hr.mono (by omega)) (by rfl) (pa_cons (pv 0) (pa_cons (pv 1) pa_nil)))) (pg_name (i := 4) sc.nd rfl (by first | exact .inl rfl | exact .inr rfl)) (pss_cons (ps_asg (zaD G_done (hr.mono (by omega)) (by rfl) (pa_cons (pv 2) (pa_cons (zak (hu_of hr) (zak (hu_of hr) (pv 0) (pv 4) (fun _ _ => rfl)) pe_int (fun _ _ => rfl)) pa_nil))) (pg_unp (is := [5, 6]) (by rfl) (pgs_cons (pg_name (i := 5) sc.nd rfl (by first | exact .inl rfl | exact .inr rfl)) (pgs_cons (pg_name (i := 6) sc.nd rfl (by first | exact .inl rfl | exact .inr rfl)) pgs_nil)))) (pss_one (ps_if (PW.pt (pw_or (pt_cmp (pc_isN (zak (hu_of hr) (zak (hu_of hr) (pv 0) (pv 4) (fun _ _ => rfl)) pe_int (fun _ _ => rfl))) rfl) (pw_or1 (pt_val (zaD G_like (hr.mono (by omega)) (by rfl) (pa_cons (zak (hu_of hr) (zak (hu_of hr) (pv 0) (pv 4) (fun _ _ => rfl)) pe_int (fun _ _ => rfl)) (pa_cons (pv 5) pa_nil))))))) (pss_cons (ps_set (i := 7) sc.nd rfl (by first | exact .inl rfl | exact .inr rfl) (pe_callTy call_tuple_of (by rfl) T.b_tuple zaL (pa_cons (pe_lc (own := [("one", 9)]) rfl sc.nd (zba (pv 1)) (blkOk_by (by kernel_rfl)) (fun _ _ _ _ _ => (pg_name (i := 9) sc.nd rfl (by first | exact .inl rfl | exact .inr rfl))) (fun _ _ _ _ _ => (pts_one (pt_cmpR (op_neD hr.units) (pv 9) (pv 4) (nomark _)))) (fun _ _ _ _ _ => (pv 9))) pa_nil))) (pss_cons (ps_set (i := 8) sc.nd rfl (by first | exact .inl rfl | exact .inr rfl) (zaD G_order_of (hr.mono (by omega)) (by rfl) (pa_cons (pv 0) (pa_cons (pv 7) (pa_cons (pv 6) (pa_cons (pv 3) pa_nil)))))) (pss_one (ps_if (pt_cmp (pc_notN (pv 8)) rfl) (pss_one (ps_ret (pe_op zaA (pe_lst (pa_cons (pv 4) pa_nil)) (pv 8)))) pss_nil)))) pss_nil)))) (pss_cons (zbz (u16 hr) (pv 3) (pe_tup (pa_cons (pv 1) (pa_cons (pv 2) pa_nil))) pe_bl) (pss_one (ps_ret pe_non))))))
abbrev st_judged : Stmt := top 29
theorem sc_judged : FnScope ["rows"] ["rows"] (defScope st_judged) := ⟨rfl, rfl, rfl, by decide +kernel, rfl, by decide +kernel, by decide +kernel⟩
def t_judged (P : Program) (w : World) (K : PySem.W.Frag) (CA : Nat → Addr) : TS := (tSeq (tDrop (tCall (spOf (Wv P w K CA) 1 zaE) [] L2.E0 (tCons (tVar 0) tNil))) (tRet (tCall (spOf (Wv P w K CA) 4 (zbq 40)) [] L2.E0 (tCons (tVar 0) (tCons (tTupRg (tRg1 (tCB (rLenA K) (tCons (tVar 0) tNil)))) (tCons (tOp (rMulA K) (tTup (tCons (tC (.int 0)) tNil)) (tC (.int 10))) (tCons tDNewN tNil)))))))
theorem sim_judged : SimS (Wv P w K CA) (t_judged P w K CA) (bo_judged) := (zaf (simS_expr (zai (dfl := []) (zaa zab zac) rfl rfl)) (zao (zai (dfl := []) (zaa zab (zaa (sim_tupRg (zas (zaa zab zac) zbv)) (zaa (zag (zal (zaa zad zac)) zad sim_mul) (zaa (sim_box sim_dnewN) zac)))) rfl rfl)))
theorem ok_judged (T : Fx K mg) {f : Addr} {fd : FuncData} (F : FnP K "judged" "judged" st_judged [] f fd) (G_need_history : Kn P w K mg base 7 "need_history" ["rows"] [] (spOf (Wv P w K CA) 1 zaE)) (G_order_of : Kn P w K mg base 42 "order_of" ["rows", "left", "worths", "dead"] [] (spOf (Wv P w K CA) 4 (zbq 40)))  : FnOk P w K mg base CX0 43 f fd ["rows"] (spOf (Wv P w K CA) 1 ev_judged) := by
  have sc := sc_judged
  refine fn_ok F sc fun cdv A outer s H E hr => ⟨t_judged P w K CA, ?_, sim_judged⟩
  exact (pss_cons (ps_expr (zaD G_need_history (hr.mono (by omega)) (by rfl) (pa_cons (pv 0) pa_nil))) (pss_one (ps_ret (zaD G_order_of (hr.mono (by omega)) (by rfl) (pa_cons (pv 0) (pa_cons (pe_tupRg rfl (by rfl) T.b_tuple (prg_1 (by rfl) T.b_range (pe_callB zaW (by rfl) T.b_len bb_len (pa_cons (pv 0) pa_nil)))) (pa_cons (pe_op op_mulA (pe_tup (pa_cons pe_int pa_nil)) (zbL T.c_FILES (by rfl))) (pa_cons pe_dnewN pa_nil))))))))
abbrev st_word_of : Stmt := top 33
theorem sc_word_of : FnScope ["part", "one", "k"] ["part"] (defScope st_word_of) := ⟨rfl, rfl, rfl, by decide +kernel, rfl, by decide +kernel, by decide +kernel⟩
def t_word_of (P : Program) (w : World) (K : PySem.W.Frag) (CA : Nat → Addr) : TS := (tSeq (tIfS (tB (tIsN (tVar 0))) (tRet (tC (.str "-"))) tNext) (tSeq (tIfS (tB (tCB (rIsi K) (tCons (tVar 0) (tCons (tC (.ty "bool")) tNil)))) (tRet (tIf (tB (tVar 0)) (tC (.str "yes")) (tC (.str "no")))) tNext) (tSeq (tIfS (tB (tCB (rIsi K) (tCons (tVar 0) (tCons (tC (.ty "tuple")) tNil)))) (tRet (tJoinS K (tC (.str ",")) (tLc (iSeq K (tVar 0)) (gName 1) tYes (tIf (tB (tCB (rIsi K) (tCons (tVar 1) (tCons (tC (.ty "tuple")) tNil)))) (tJoinS K (tC (.str ":")) (tLc (iSeq K (tVar 1)) (gName 2) tYes (tCB rStrI (tCons (tVar 2) tNil)) [2])) (tCB rStrI (tCons (tVar 1) tNil))) [1]))) tNext) (tRet (tCB rStrI (tCons (tVar 0) tNil))))))
theorem sim_word_of : SimS (Wv P w K CA) (t_word_of P w K CA) (bo_word_of) := (zaf (zau (zav (sim_isN zab)) (zao zaq) zap) (zaf (zau (zav (zaM (t := .bool) zab)) (zao (sim_if (zav zab) zaq zaq)) zap) (zaf (zau (zav (zaM (t := .tuple) zab)) (zao (sim_join zaq (zaN (js := [1]) (vs := [1]) zbp zaF (by decide) zbC (sim_if (zav (zaM (t := .tuple) zab)) (sim_join zaq (zaN (js := [2]) (vs := [2]) zbp zaF (by decide) zbC (zas (zaa zab zac) sim_strc))) (zas (zaa zab zac) sim_strc))))) zap) (zao (zas (zaa zab zac) sim_strc)))))
theorem ok_word_of (T : Fx K mg) {f : Addr} {fd : FuncData} (F : FnP K "word_of" "word_of" st_word_of [] f fd)   : FnOk P w K mg base CX0 1 f fd ["part"] (spOf (Wv P w K CA) 1 zax) := by
  have sc := sc_word_of
  refine fn_ok F sc fun cdv A outer s H E hr => ⟨t_word_of P w K CA, ?_, sim_word_of⟩
  exact (pss_cons (ps_if (pt_cmp (pc_isN (pv 0)) rfl) (pss_one (ps_ret (pe_gstr T.c_NONE (by rfl)))) pss_nil) (pss_cons (ps_if (pt_val (pe_callB call_isi (by rfl) T.b_isinstance zah (pa_cons (pv 0) (pa_cons (pe_bltn (by rfl) T.b_bool bb_bool rfl) pa_nil)))) (pss_one (ps_ret (pe_ifExp (pt_val (pv 0)) pe_str pe_str))) pss_nil) (pss_cons (ps_if (pt_val (pe_callB call_isi (by rfl) T.b_isinstance zah (pa_cons (pv 0) (pa_cons (pe_bltn (by rfl) T.b_tuple zaL rfl) pa_nil)))) (pss_one (ps_ret (pe_join pe_str (pe_lc (own := [("one", 1)]) rfl sc.nd (zba (pv 0)) (blkOk_by (by kernel_rfl)) (fun _ _ _ _ _ => (pg_name (i := 1) sc.nd rfl (by first | exact .inl rfl | exact .inr rfl))) (fun _ _ _ _ _ => pts_nil) (fun _ _ _ _ _ => (pe_ifExp (pt_val (pe_callB call_isi (by rfl) T.b_isinstance zah (pa_cons (pv 1) (pa_cons (pe_bltn (by rfl) T.b_tuple zaL rfl) pa_nil)))) (pe_join pe_str (pe_lc (own := [("k", 2)]) rfl sc.nd (zba (pv 1)) (blkOk_by (by kernel_rfl)) (fun _ _ _ _ _ => (pg_name (i := 2) sc.nd rfl (by first | exact .inl rfl | exact .inr rfl))) (fun _ _ _ _ _ => pts_nil) (fun _ _ _ _ _ => (pe_callTy call_str_int (by rfl) T.b_str bb_str (pa_cons (pv 2) pa_nil))))) (pe_callTy call_str_int (by rfl) T.b_str bb_str (pa_cons (pv 1) pa_nil)))))))) pss_nil) (pss_one (ps_ret (pe_callTy call_str_int (by rfl) T.b_str bb_str (pa_cons (pv 0) pa_nil)))))))
abbrev st_words_of : Stmt := top 34
theorem sc_words_of : FnScope ["row", "user", "deed", "begin", "end", "answer", "part"] ["row"] (defScope st_words_of) := ⟨rfl, rfl, rfl, by decide +kernel, rfl, by decide +kernel, by decide +kernel⟩
def t_words_of (P : Program) (w : World) (K : PySem.W.Frag) (CA : Nat → Addr) : TS := (tSeq (tAsg (tVar 0) (gUnp K [1, 2, 3, 4, 5])) (tRet (tOp (rAddA K) (tOp (rAddA K) (tLst (tCons (tCB rStrI (tCons (tVar 1) tNil)) (tCons (tCB rStrI (tCons (tVar 3) tNil)) (tCons (tCall (spOf (Wv P w K CA) 1 zax) [] L2.E0 (tCons (tVar 4) tNil)) (tCons (tIxA K (tVar 2) (tC (.int 0))) tNil))))) (tLc (iSeq K (tSl (rSlB K) (tVar 2) (tPart (tC (.int 1))) tNoPart)) (gName 6) tYes (tCall (spOf (Wv P w K CA) 1 zax) [] L2.E0 (tCons (tVar 6) tNil)) [6])) (tLst (tCons (tCall (spOf (Wv P w K CA) 1 zax) [] L2.E0 (tCons (tVar 5) tNil)) tNil)))))
theorem sim_words_of : SimS (Wv P w K CA) (t_words_of P w K CA) (bo_words_of) := (zaf (simS_unp zab) (zao (zag (zag (zaH (zaa (zas (zaa zab zac) sim_strc) (zaa (zas (zaa zab zac) sim_strc) (zaa (zai (dfl := []) (zaa zab zac) rfl rfl) (zaa (zam zab zad) zac))))) (zaN (js := [6]) (vs := [6]) (za0 (sim_slice zab (simP_some zad) simP_none)) zaF (by decide) zbC (zai (dfl := []) (zaa zab zac) rfl rfl)) zaz) (zaH (zaa (zai (dfl := []) (zaa zab zac) rfl rfl) zac)) zaz)))
theorem ok_words_of (T : Fx K mg) {f : Addr} {fd : FuncData} (F : FnP K "words_of" "words_of" st_words_of [] f fd) (G_word_of : Kn P w K mg base 1 "word_of" ["part"] [] (spOf (Wv P w K CA) 1 zax))  : FnOk P w K mg base CX0 2 f fd ["row"] (spOf (Wv P w K CA) 1 zbf) := by
  have sc := sc_words_of
  refine fn_ok F sc fun cdv A outer s H E hr => ⟨t_words_of P w K CA, ?_, sim_words_of⟩
  exact (pss_cons (ps_asg (pv 0) (pg_unp (is := [1, 2, 3, 4, 5]) (by rfl) (pgs_cons (pg_name (i := 1) sc.nd rfl (by first | exact .inl rfl | exact .inr rfl)) (pgs_cons (pg_name (i := 2) sc.nd rfl (by first | exact .inl rfl | exact .inr rfl)) (pgs_cons (pg_name (i := 3) sc.nd rfl (by first | exact .inl rfl | exact .inr rfl)) (pgs_cons (pg_name (i := 4) sc.nd rfl (by first | exact .inl rfl | exact .inr rfl)) (pgs_cons (pg_name (i := 5) sc.nd rfl (by first | exact .inl rfl | exact .inr rfl)) pgs_nil))))))) (pss_one (ps_ret (pe_op zaA (pe_op zaA (pe_lst (pa_cons (pe_callTy call_str_int (by rfl) T.b_str bb_str (pa_cons (pv 1) pa_nil)) (pa_cons (pe_callTy call_str_int (by rfl) T.b_str bb_str (pa_cons (pv 3) pa_nil)) (pa_cons (zaD G_word_of (hr.mono (by omega)) (by rfl) (pa_cons (pv 4) pa_nil)) (pa_cons (zak (hu_of hr) (pv 2) pe_int (fun _ _ => rfl)) pa_nil))))) (pe_lc (own := [("part", 6)]) rfl sc.nd (zba (pe_slice sl_any (pv 2) (po_some pe_int) po_none)) (blkOk_by (by kernel_rfl)) (fun _ _ _ _ _ => (pg_name (i := 6) sc.nd rfl (by first | exact .inl rfl | exact .inr rfl))) (fun _ _ _ _ _ => pts_nil) (fun _ _ _ _ _ => (zaD G_word_of (hr.mono (by omega)) (by rfl) (pa_cons (pv 6) pa_nil))))) (pe_lst (pa_cons (zaD G_word_of (hr.mono (by omega)) (by rfl) (pa_cons (pv 5) pa_nil)) pa_nil))))))
abbrev st_written : Stmt := top 35
theorem sc_written : FnScope ["rows", "row"] ["rows"] (defScope st_written) := ⟨rfl, rfl, rfl, by decide +kernel, rfl, by decide +kernel, by decide +kernel⟩
def t_written (P : Program) (w : World) (K : PySem.W.Frag) (CA : Nat → Addr) : TS := (tSeq (tDrop (tCall (spOf (Wv P w K CA) 1 zaE) [] L2.E0 (tCons (tVar 0) tNil))) (tRet (tJoinS K (tC (.str "\n")) (tLc (iSeq K (tVar 0)) (gName 1) tYes (tJoinS K (tC (.str " ")) (tCall (spOf (Wv P w K CA) 1 zbf) [] L2.E0 (tCons (tVar 1) tNil))) [1]))))
theorem sim_written : SimS (Wv P w K CA) (t_written P w K CA) (bo_written) := (zaf (simS_expr (zai (dfl := []) (zaa zab zac) rfl rfl)) (zao (sim_join zaq (zaN (js := [1]) (vs := [1]) zbp zaF (by decide) zbC (sim_join zaq (zai (dfl := []) (zaa zab zac) rfl rfl))))))
theorem ok_written (T : Fx K mg) {f : Addr} {fd : FuncData} (F : FnP K "written" "written" st_written [] f fd) (G_need_history : Kn P w K mg base 7 "need_history" ["rows"] [] (spOf (Wv P w K CA) 1 zaE)) (G_words_of : Kn P w K mg base 2 "words_of" ["row"] [] (spOf (Wv P w K CA) 1 zbf))  : FnOk P w K mg base CX0 8 f fd ["rows"] (spOf (Wv P w K CA) 1 zbR) := by
  have sc := sc_written
  refine fn_ok F sc fun cdv A outer s H E hr => ⟨t_written P w K CA, ?_, sim_written⟩
  exact (pss_cons (ps_expr (zaD G_need_history (hr.mono (by omega)) (by rfl) (pa_cons (pv 0) pa_nil))) (pss_one (ps_ret (pe_join pe_str (pe_lc (own := [("row", 1)]) rfl sc.nd (zba (pv 0)) (blkOk_by (by kernel_rfl)) (fun _ _ _ _ _ => (pg_name (i := 1) sc.nd rfl (by first | exact .inl rfl | exact .inr rfl))) (fun _ _ _ _ _ => pts_nil) (fun _ _ _ _ _ => (pe_join pe_str (zaD G_words_of (hr.mono (by omega)) (by rfl) (pa_cons (pv 1) pa_nil)))))))))
abbrev zbx : Stmt := top 47
theorem sc__law_bad_row : FnScope ["_law_d", "_law_rows", "_law_at", "_law_ends", "_law_row", "_law_some_here", "_law_far", "_law_user", "_law_answer", "_law_begin", "_law_end"] ["_law_d", "_law_rows", "_law_at"] (defScope zbx) := ⟨rfl, rfl, rfl, by decide +kernel, rfl, by decide +kernel, by decide +kernel⟩
def t__law_bad_row (P : Program) (w : World) (K : PySem.W.Frag) (CA : Nat → Addr) : TS := (tSeq (tAsg tDNewK (gName 3)) (tSeq (tFor (iSeq K (tSl (rSlB K) (tVar 1) tNoPart (tPart (tVar 2)))) (gName 4) (tSet (tVar 3) (tIxA K (tVar 4) (tC (.int 0))) (tIf (tB (tIsN (tIxA K (tVar 4) (tC (.int 3))))) (tIxA K (tVar 4) (tC (.int 2))) (tIxA K (tVar 4) (tC (.int 3)))))) (tSeq (tAsg (tLst (tCons (tTup tNil) (tCons (tTup (tCons (tC (.int 1)) (tCons (tTup (tCons (tC (.str "add")) (tCons (tC (.int 5)) (tCons (tC (.int 1)) tNil)))) (tCons (tC (.int 900)) (tCons (tC (.int 901)) tNil))))) (tCons (tTup (tCons (tC (.int 1)) (tCons (tTup (tCons (tC (.str "add")) (tCons (tC (.int 10)) (tCons (tC (.int 1)) tNil)))) (tCons (tC (.int 900)) (tCons (tC (.int 901)) (tCons (tC (.int 5)) tNil)))))) (tCons (tTup (tCons (tC (.int 1)) (tCons (tTup (tCons (tC (.str "split")) (tCons (tC (.int 5)) tNil))) (tCons (tC (.int 900)) (tCons (tC (.int 901)) (tCons (tC (.int 5)) tNil)))))) tNil))))) (gName 5)) (tSeq (tAsg (tOp (rAddA K) (tVar 5) (tLst (tCons (tTup (tCons (tC (.int 1)) (tCons (tTup (tCons (tC (.str "add")) (tCons (tC (.int 5)) (tCons (tC (.int 1)) tNil)))) (tCons (tC (.int 900)) (tCons (tC (.int 900)) (tCons (tC (.int 5)) tNil)))))) (tCons (tTup (tCons (tC (.int 1)) (tCons (tTup (tCons (tC (.str "add")) (tCons (tC (.int 5)) (tCons (tC (.int 1)) tNil)))) (tCons (tC (.int 901)) (tCons (tC (.int 900)) (tCons (tC (.int 5)) tNil)))))) (tCons (tTup (tCons (tC (.int 1)) (tCons (tTup (tCons (tC (.str "add")) (tCons (tC (.int 5)) (tCons (tC (.int 1)) tNil)))) (tCons (tC (.int 900)) (tCons (tC (.non)) (tCons (tC (.int 5)) tNil)))))) tNil))))) (gName 5)) (tSeq (tAsg (tOp (rAddA K) (tVar 5) (tLst (tCons (tTup (tCons (tC (.int 1)) (tCons (tTup (tCons (tC (.str "look")) (tCons (tTup (tCons (tC (.int 5)) tNil)) tNil))) (tCons (tC (.int 900)) (tCons (tC (.int 901)) (tCons (tC (.non)) tNil)))))) (tCons (tTup (tCons (tC (.int 1)) (tCons (tTup (tCons (tC (.str "look")) (tCons (tTup tNil) tNil))) (tCons (tC (.int 900)) (tCons (tC (.non)) (tCons (tC (.non)) tNil)))))) (tCons (tTup (tCons (tC (.int 1)) (tCons (tTup tNil) (tCons (tC (.int 900)) (tCons (tC (.int 901)) (tCons (tC (.int 5)) tNil)))))) tNil))))) (gName 5)) (tSeq (tAsg (tCB rMax2I (tCons (tC (.int 0)) (tCons (tOp rSubI (tCall (spOf (Wv P w K CA) 2 zae) [] L2.E0 (tCons (tVar 0) (tCons (tOp rPowI (tC (.int 10)) (tC (.int 6))) tNil))) (tC (.int 500000))) tNil))) (gName 6)) (tSeq (tFor (iSeq K (tLst (tCons (tOp rSubI (tUn rNegI (tC (.int 1))) (tVar 6)) (tCons (tOp (rAddA K) (tC (.int 100)) (tVar 6)) (tCons (tC (.int 100)) (tCons (tC (.int 9999)) (tCons (tC (.bl true)) (tCons (tC (.non)) (tCons (tC (.str "1")) (tCons (tTup (tCons (tC (.int 1)) tNil)) tNil)))))))))) (gName 7) (tAsg (tOp (rAddA K) (tVar 5) (tLst (tCons (tTup (tCons (tVar 7) (tCons (tTup (tCons (tC (.str "add")) (tCons (tC (.int 5)) (tCons (tC (.int 1)) tNil)))) (tCons (tC (.int 900)) (tCons (tC (.int 901)) (tCons (tC (.int 5)) tNil)))))) (tCons (tTup (tCons (tVar 7) (tCons (tTup (tCons (tC (.str "add")) (tCons (tC (.int 5)) (tCons (tC (.int 1)) tNil)))) (tCons (tC (.int 900)) (tCons (tC (.non)) (tCons (tC (.non)) tNil)))))) tNil)))) (gName 5))) (tSeq (tFor (iSeq K (tLst (tCons (tTup (tCons (tUn rNegI (tC (.int 1))) (tCons (tC (.int 901)) tNil))) (tCons (tTup (tCons (tOp rSubI (tUn rNegI (tC (.int 1))) (tVar 6)) (tCons (tC (.non)) tNil))) (tCons (tTup (tCons (tC (.int 900)) (tCons (tOp (rAddA K) (tC (.int 10000)) (tVar 6)) tNil))) (tCons (tTup (tCons (tOp (rAddA K) (tC (.int 10000)) (tVar 6)) (tCons (tC (.non)) tNil))) (tCons (tTup (tCons (tC (.bl true)) (tCons (tC (.int 901)) tNil))) (tCons (tTup (tCons (tC (.non)) (tCons (tC (.int 901)) tNil))) tNil)))))))) (gTup K 2 (gNames [9, 10])) (tDrop (tApp K (tVar 5) (tTup (tCons (tC (.int 1)) (tCons (tTup (tCons (tC (.str "add")) (tCons (tC (.int 5)) (tCons (tC (.int 1)) tNil)))) (tCons (tVar 9) (tCons (tVar 10) (tCons (tIf (tB (tNotN (tVar 10))) (tC (.int 5)) (tC (.non))) tNil))))))))) (tSeq (tFor (iSeq K (tLst (tCons (tC (.bl true)) (tCons (tOp (rAddA K) (tC (.int 1000)) (tVar 6)) (tCons (tUn rNegI (tC (.int 1))) (tCons (tTup (tCons (tC (.int 5)) tNil)) (tCons (tC (.str "5")) (tCons (tC (.non)) tNil)))))))) (gName 8) (tDrop (tApp K (tVar 5) (tTup (tCons (tC (.int 1)) (tCons (tTup (tCons (tC (.str "add")) (tCons (tC (.int 5)) (tCons (tC (.int 1)) tNil)))) (tCons (tC (.int 900)) (tCons (tC (.int 901)) (tCons (tVar 8) tNil))))))))) (tSeq (tFor (iSeq K (tLst (tCons (tC (.int 5)) (tCons (tC (.bl true)) (tCons (tTup tNil) (tCons (tTup (tCons (tC (.int 1)) (tCons (tC (.int 2)) (tCons (tC (.int 3)) tNil)))) (tCons (tTup (tCons (tC (.int 1)) (tCons (tC (.int 1000)) tNil))) (tCons (tTup (tCons (tC (.int 1)) (tCons (tOp rSubI (tUn rNegI (tC (.int 1))) (tVar 6)) tNil))) (tCons (tTup (tCons (tC (.int 1)) (tCons (tC (.bl true)) tNil))) (tCons (tTup (tCons (tC (.int 1)) (tCons (tC (.non)) tNil))) tNil)))))))))) (gName 8) (tAsg (tOp (rAddA K) (tVar 5) (tLst (tCons (tTup (tCons (tC (.int 1)) (tCons (tTup (tCons (tC (.str "look")) (tCons (tTup (tCons (tC (.int 4)) (tCons (tC (.int 5)) tNil))) tNil))) (tCons (tC (.int 900)) (tCons (tC (.int 901)) (tCons (tVar 8) tNil)))))) (tCons (tTup (tCons (tC (.int 1)) (tCons (tTup (tCons (tC (.str "put")) (tCons (tTup (tCons (tTup (tCons (tC (.int 4)) (tCons (tC (.int 1)) tNil))) (tCons (tTup (tCons (tC (.int 5)) (tCons (tC (.int 2)) tNil))) tNil))) tNil))) (tCons (tC (.int 900)) (tCons (tC (.int 901)) (tCons (tVar 8) tNil)))))) tNil)))) (gName 5))) (tSeq (tFor (iSeq K (tLst (tCons (tC (.int 0)) (tCons (tC (.int 1)) (tCons (tTup (tCons (tC (.bl true)) tNil)) (tCons (tC (.str "yes")) tNil)))))) (gName 8) (tDrop (tApp K (tVar 5) (tTup (tCons (tC (.int 1)) (tCons (tTup (tCons (tC (.str "move")) (tCons (tC (.int 4)) (tCons (tC (.int 5)) (tCons (tC (.int 1)) tNil))))) (tCons (tC (.int 900)) (tCons (tC (.int 901)) (tCons (tVar 8) tNil))))))))) (tSeq (tFor (iSeq K (tCB rSortD (tCons (tVar 3) tNil))) (gName 7) (tSeq (tDrop (tApp K (tVar 5) (tTup (tCons (tVar 7) (tCons (tTup (tCons (tC (.str "add")) (tCons (tC (.int 5)) (tCons (tC (.int 1)) tNil)))) (tCons (tIxA K (tVar 3) (tVar 7)) (tCons (tC (.int 999)) (tCons (tC (.int 0)) tNil)))))))) (tDrop (tApp K (tVar 5) (tTup (tCons (tVar 7) (tCons (tTup (tCons (tC (.str "look")) (tCons (tTup (tCons (tC (.int 5)) tNil)) tNil))) (tCons (tCB rMax2I (tCons (tC (.int 0)) (tCons (tOp rSubI (tIxA K (tVar 3) (tVar 7)) (tC (.int 1))) tNil))) (tCons (tC (.non)) (tCons (tC (.non)) tNil)))))))))) (tRet (tIxA K (tVar 5) (tCall (spOf (Wv P w K CA) 2 zae) [] L2.E0 (tCons (tVar 0) (tCons (tCB (rLenA K) (tCons (tVar 5) tNil)) tNil)))))))))))))))))
theorem sim__law_bad_row : SimS (Wv P w K CA) (t__law_bad_row P w K CA) (bo__law_bad_row) := (zaf (zar sim_dnewK) (zaf (zbD (za0 (sim_slice zab simP_none (simP_some zab))) tg_name (zbl (zam zab zad) (sim_if (zav (sim_isN (zam zab zad))) (zam zab zad) (zam zab zad)))) (zaf (zar (zaH (zaa (zal zac) (zaa (zal (zaa zad (zaa (zal (zaa zaq (zaa zad (zaa zad zac)))) (zaa zad (zaa zad zac))))) (zaa (zal (zaa zad (zaa (zal (zaa zaq (zaa zad (zaa zad zac)))) (zaa zad (zaa zad (zaa zad zac)))))) (zaa (zal (zaa zad (zaa (zal (zaa zaq (zaa zad zac))) (zaa zad (zaa zad (zaa zad zac)))))) zac)))))) (zaf (zar (zag zab (zaH (zaa (zal (zaa zad (zaa (zal (zaa zaq (zaa zad (zaa zad zac)))) (zaa zad (zaa zad (zaa zad zac)))))) (zaa (zal (zaa zad (zaa (zal (zaa zaq (zaa zad (zaa zad zac)))) (zaa zad (zaa zad (zaa zad zac)))))) (zaa (zal (zaa zad (zaa (zal (zaa zaq (zaa zad (zaa zad zac)))) (zaa zad (zaa zbo (zaa zad zac)))))) zac)))) zaz)) (zaf (zar (zag zab (zaH (zaa (zal (zaa zad (zaa (zal (zaa zaq (zaa (zal (zaa zad zac)) zac))) (zaa zad (zaa zad (zaa zbo zac)))))) (zaa (zal (zaa zad (zaa (zal (zaa zaq (zaa (zal zac) zac))) (zaa zad (zaa zbo (zaa zbo zac)))))) (zaa (zal (zaa zad (zaa (zal zac) (zaa zad (zaa zad (zaa zad zac)))))) zac)))) zaz)) (zaf (zar (zas (zaa zad (zaa (zag (zai (dfl := []) (zaa zab (zaa (zag zad zad sim_pow) zac)) rfl rfl) zad sim_sub) zac)) sim_max2)) (zaf (zbD (za0 (zaH (zaa (zag (sim_un zad sim_neg) zab sim_sub) (zaa (zag zad zab zaz) (zaa zad (zaa zad (zaa za9 (zaa zbo (zaa zaq (zaa (zal (zaa zad zac)) zac)))))))))) tg_name (zar (zag zab (zaH (zaa (zal (zaa zab (zaa (zal (zaa zaq (zaa zad (zaa zad zac)))) (zaa zad (zaa zad (zaa zad zac)))))) (zaa (zal (zaa zab (zaa (zal (zaa zaq (zaa zad (zaa zad zac)))) (zaa zad (zaa zbo (zaa zbo zac)))))) zac))) zaz))) (zaf (zbD (za0 (zaH (zaa (zal (zaa (sim_un zad sim_neg) (zaa zad zac))) (zaa (zal (zaa (zag (sim_un zad sim_neg) zab sim_sub) (zaa zbo zac))) (zaa (zal (zaa zad (zaa (zag zad zab zaz) zac))) (zaa (zal (zaa (zag zad zab zaz) (zaa zbo zac))) (zaa (zal (zaa za9 (zaa zad zac))) (zaa (zal (zaa zbo (zaa zad zac))) zac)))))))) (tg_tup (is := [9, 10])) (simS_appV (zal (zaa zad (zaa (zal (zaa zaq (zaa zad (zaa zad zac)))) (zaa zab (zaa zab (zaa (sim_if (zav (sim_notN zab)) zad zbo) zac)))))))) (zaf (zbD (za0 (zaH (zaa za9 (zaa (zag zad zab zaz) (zaa (sim_un zad sim_neg) (zaa (zal (zaa zad zac)) (zaa zaq (zaa zbo zac)))))))) tg_name (simS_appV (zal (zaa zad (zaa (zal (zaa zaq (zaa zad (zaa zad zac)))) (zaa zad (zaa zad (zaa zab zac)))))))) (zaf (zbD (za0 (zaH (zaa zad (zaa za9 (zaa (zal zac) (zaa (zal (zaa zad (zaa zad (zaa zad zac)))) (zaa (zal (zaa zad (zaa zad zac))) (zaa (zal (zaa zad (zaa (zag (sim_un zad sim_neg) zab sim_sub) zac))) (zaa (zal (zaa zad (zaa za9 zac))) (zaa (zal (zaa zad (zaa zbo zac))) zac)))))))))) tg_name (zar (zag zab (zaH (zaa (zal (zaa zad (zaa (zal (zaa zaq (zaa (zal (zaa zad (zaa zad zac))) zac))) (zaa zad (zaa zad (zaa zab zac)))))) (zaa (zal (zaa zad (zaa (zal (zaa zaq (zaa (zal (zaa (zal (zaa zad (zaa zad zac))) (zaa (zal (zaa zad (zaa zad zac))) zac))) zac))) (zaa zad (zaa zad (zaa zab zac)))))) zac))) zaz))) (zaf (zbD (za0 (zaH (zaa zad (zaa zad (zaa (zal (zaa za9 zac)) (zaa zaq zac)))))) tg_name (simS_appV (zal (zaa zad (zaa (zal (zaa zaq (zaa zad (zaa zad (zaa zad zac))))) (zaa zad (zaa zad (zaa zab zac)))))))) (zaf (zbD (za0 (zas (zaa zab zac) sim_sortedD)) tg_name (zaf (simS_appV (zal (zaa zab (zaa (zal (zaa zaq (zaa zad (zaa zad zac)))) (zaa (zam zab zab) (zaa zad (zaa zad zac))))))) (simS_appV (zal (zaa zab (zaa (zal (zaa zaq (zaa (zal (zaa zad zac)) zac))) (zaa (zas (zaa zad (zaa (zag (zam zab zab) zad sim_sub) zac)) sim_max2) (zaa zbo (zaa zbo zac))))))))) (zao (zam zab (zai (dfl := []) (zaa zab (zaa (zas (zaa zab zac) zbv) zac)) rfl rfl)))))))))))))))
theorem ok__law_bad_row (T : Fx K mg) {f : Addr} {fd : FuncData} (F : FnP K "_law_bad_row" "_law_bad_row" zbx [] f fd) (G__law_off : Kn P w K mg base 1 "_law_off" ["_law_d", "_law_most"] [] (spOf (Wv P w K CA) 2 zae))  : FnOk P w K mg base CX0 2 f fd ["_law_d", "_law_rows", "_law_at"] (spOf (Wv P w K CA) 3 zaO) := by
  have sc := sc__law_bad_row
  refine fn_ok F sc fun cdv A outer s H E hr => ⟨t__law_bad_row P w K CA, ?_, sim__law_bad_row⟩
  exact (pss_cons (ps_set (i := 3) sc.nd rfl (by first | exact .inl rfl | exact .inr rfl) pe_dnewK) (pss_cons (ps_for PassesOwn.never rfl (zba (pe_slice sl_any (pv 1) po_none (po_some (pv 2)))) (pg_name (i := 4) sc.nd rfl (by first | exact .inl rfl | exact .inr rfl)) (pss_one (zbz (u16 hr) (pv 3) (zak (hu_of hr) (pv 4) pe_int (fun _ _ => rfl)) (pe_ifExp (pt_cmp (pc_isN (zak (hu_of hr) (pv 4) pe_int (fun _ _ => rfl))) rfl) (zak (hu_of hr) (pv 4) pe_int (fun _ _ => rfl)) (zak (hu_of hr) (pv 4) pe_int (fun _ _ => rfl)))))) (pss_cons (ps_set (i := 5) sc.nd rfl (by first | exact .inl rfl | exact .inr rfl) (pe_lst (pa_cons (pe_tup pa_nil) (pa_cons (pe_tup (pa_cons pe_int (pa_cons (pe_tup (pa_cons pe_str (pa_cons pe_int (pa_cons pe_int pa_nil)))) (pa_cons pe_int (pa_cons pe_int pa_nil))))) (pa_cons (pe_tup (pa_cons pe_int (pa_cons (pe_tup (pa_cons pe_str (pa_cons pe_int (pa_cons pe_int pa_nil)))) (pa_cons pe_int (pa_cons pe_int (pa_cons pe_int pa_nil)))))) (pa_cons (pe_tup (pa_cons pe_int (pa_cons (pe_tup (pa_cons pe_str (pa_cons pe_int pa_nil))) (pa_cons pe_int (pa_cons pe_int (pa_cons pe_int pa_nil)))))) pa_nil)))))) (pss_cons (ps_set (i := 5) sc.nd rfl (by first | exact .inl rfl | exact .inr rfl) (pe_op zaA (pv 5) (pe_lst (pa_cons (pe_tup (pa_cons pe_int (pa_cons (pe_tup (pa_cons pe_str (pa_cons pe_int (pa_cons pe_int pa_nil)))) (pa_cons pe_int (pa_cons pe_int (pa_cons pe_int pa_nil)))))) (pa_cons (pe_tup (pa_cons pe_int (pa_cons (pe_tup (pa_cons pe_str (pa_cons pe_int (pa_cons pe_int pa_nil)))) (pa_cons pe_int (pa_cons pe_int (pa_cons pe_int pa_nil)))))) (pa_cons (pe_tup (pa_cons pe_int (pa_cons (pe_tup (pa_cons pe_str (pa_cons pe_int (pa_cons pe_int pa_nil)))) (pa_cons pe_int (pa_cons pe_non (pa_cons pe_int pa_nil)))))) pa_nil)))))) (pss_cons (ps_set (i := 5) sc.nd rfl (by first | exact .inl rfl | exact .inr rfl) (pe_op zaA (pv 5) (pe_lst (pa_cons (pe_tup (pa_cons pe_int (pa_cons (pe_tup (pa_cons pe_str (pa_cons (pe_tup (pa_cons pe_int pa_nil)) pa_nil))) (pa_cons pe_int (pa_cons pe_int (pa_cons pe_non pa_nil)))))) (pa_cons (pe_tup (pa_cons pe_int (pa_cons (pe_tup (pa_cons pe_str (pa_cons (pe_tup pa_nil) pa_nil))) (pa_cons pe_int (pa_cons pe_non (pa_cons pe_non pa_nil)))))) (pa_cons (pe_tup (pa_cons pe_int (pa_cons (pe_tup pa_nil) (pa_cons pe_int (pa_cons pe_int (pa_cons pe_int pa_nil)))))) pa_nil)))))) (pss_cons (ps_set (i := 6) sc.nd rfl (by first | exact .inl rfl | exact .inr rfl) (pe_callB (call_max2 rfl) (by rfl) T.b_max bb_max (pa_cons pe_int (pa_cons (pe_op op_sub (zaD G__law_off (hr.mono (by omega)) (by rfl) (pa_cons (pv 0) (pa_cons (pe_op op_pow pe_int pe_int) pa_nil))) pe_int) pa_nil)))) (pss_cons (ps_for PassesOwn.never rfl (zba (pe_lst (pa_cons (pe_op op_sub (pe_un un_neg pe_int) (pv 6)) (pa_cons (pe_op zaA pe_int (pv 6)) (pa_cons pe_int (pa_cons pe_int (pa_cons pe_bl (pa_cons pe_non (pa_cons pe_str (pa_cons (pe_tup (pa_cons pe_int pa_nil)) pa_nil)))))))))) (pg_name (i := 7) sc.nd rfl (by first | exact .inl rfl | exact .inr rfl)) (pss_one (ps_set (i := 5) sc.nd rfl (by first | exact .inl rfl | exact .inr rfl) (pe_op zaA (pv 5) (pe_lst (pa_cons (pe_tup (pa_cons (pv 7) (pa_cons (pe_tup (pa_cons pe_str (pa_cons pe_int (pa_cons pe_int pa_nil)))) (pa_cons pe_int (pa_cons pe_int (pa_cons pe_int pa_nil)))))) (pa_cons (pe_tup (pa_cons (pv 7) (pa_cons (pe_tup (pa_cons pe_str (pa_cons pe_int (pa_cons pe_int pa_nil)))) (pa_cons pe_int (pa_cons pe_non (pa_cons pe_non pa_nil)))))) pa_nil))))))) (pss_cons (ps_for PassesOwn.never rfl (zba (pe_lst (pa_cons (pe_tup (pa_cons (pe_un un_neg pe_int) (pa_cons pe_int pa_nil))) (pa_cons (pe_tup (pa_cons (pe_op op_sub (pe_un un_neg pe_int) (pv 6)) (pa_cons pe_non pa_nil))) (pa_cons (pe_tup (pa_cons pe_int (pa_cons (pe_op zaA pe_int (pv 6)) pa_nil))) (pa_cons (pe_tup (pa_cons (pe_op zaA pe_int (pv 6)) (pa_cons pe_non pa_nil))) (pa_cons (pe_tup (pa_cons pe_bl (pa_cons pe_int pa_nil))) (pa_cons (pe_tup (pa_cons pe_non (pa_cons pe_int pa_nil))) pa_nil)))))))) (pg_tup (by rfl) (pgs_cons (pg_name (i := 9) sc.nd rfl (by first | exact .inl rfl | exact .inr rfl)) (pgs_cons (pg_name (i := 10) sc.nd rfl (by first | exact .inl rfl | exact .inr rfl)) pgs_nil))) (pss_one (ps_expr (pe_bm PySem.F.plainAttrs_list PySem.F.slot_list_append PySem.F.type_list_append mt_append (pv 5) (pa_cons (pe_tup (pa_cons pe_int (pa_cons (pe_tup (pa_cons pe_str (pa_cons pe_int (pa_cons pe_int pa_nil)))) (pa_cons (pv 9) (pa_cons (pv 10) (pa_cons (pe_ifExp (pt_cmp (pc_notN (pv 10)) rfl) pe_int pe_non) pa_nil)))))) pa_nil))))) (pss_cons (ps_for PassesOwn.never rfl (zba (pe_lst (pa_cons pe_bl (pa_cons (pe_op zaA pe_int (pv 6)) (pa_cons (pe_un un_neg pe_int) (pa_cons (pe_tup (pa_cons pe_int pa_nil)) (pa_cons pe_str (pa_cons pe_non pa_nil)))))))) (pg_name (i := 8) sc.nd rfl (by first | exact .inl rfl | exact .inr rfl)) (pss_one (ps_expr (pe_bm PySem.F.plainAttrs_list PySem.F.slot_list_append PySem.F.type_list_append mt_append (pv 5) (pa_cons (pe_tup (pa_cons pe_int (pa_cons (pe_tup (pa_cons pe_str (pa_cons pe_int (pa_cons pe_int pa_nil)))) (pa_cons pe_int (pa_cons pe_int (pa_cons (pv 8) pa_nil)))))) pa_nil))))) (pss_cons (ps_for PassesOwn.never rfl (zba (pe_lst (pa_cons pe_int (pa_cons pe_bl (pa_cons (pe_tup pa_nil) (pa_cons (pe_tup (pa_cons pe_int (pa_cons pe_int (pa_cons pe_int pa_nil)))) (pa_cons (pe_tup (pa_cons pe_int (pa_cons pe_int pa_nil))) (pa_cons (pe_tup (pa_cons pe_int (pa_cons (pe_op op_sub (pe_un un_neg pe_int) (pv 6)) pa_nil))) (pa_cons (pe_tup (pa_cons pe_int (pa_cons pe_bl pa_nil))) (pa_cons (pe_tup (pa_cons pe_int (pa_cons pe_non pa_nil))) pa_nil)))))))))) (pg_name (i := 8) sc.nd rfl (by first | exact .inl rfl | exact .inr rfl)) (pss_one (ps_set (i := 5) sc.nd rfl (by first | exact .inl rfl | exact .inr rfl) (pe_op zaA (pv 5) (pe_lst (pa_cons (pe_tup (pa_cons pe_int (pa_cons (pe_tup (pa_cons pe_str (pa_cons (pe_tup (pa_cons pe_int (pa_cons pe_int pa_nil))) pa_nil))) (pa_cons pe_int (pa_cons pe_int (pa_cons (pv 8) pa_nil)))))) (pa_cons (pe_tup (pa_cons pe_int (pa_cons (pe_tup (pa_cons pe_str (pa_cons (pe_tup (pa_cons (pe_tup (pa_cons pe_int (pa_cons pe_int pa_nil))) (pa_cons (pe_tup (pa_cons pe_int (pa_cons pe_int pa_nil))) pa_nil))) pa_nil))) (pa_cons pe_int (pa_cons pe_int (pa_cons (pv 8) pa_nil)))))) pa_nil))))))) (pss_cons (ps_for PassesOwn.never rfl (zba (pe_lst (pa_cons pe_int (pa_cons pe_int (pa_cons (pe_tup (pa_cons pe_bl pa_nil)) (pa_cons pe_str pa_nil)))))) (pg_name (i := 8) sc.nd rfl (by first | exact .inl rfl | exact .inr rfl)) (pss_one (ps_expr (pe_bm PySem.F.plainAttrs_list PySem.F.slot_list_append PySem.F.type_list_append mt_append (pv 5) (pa_cons (pe_tup (pa_cons pe_int (pa_cons (pe_tup (pa_cons pe_str (pa_cons pe_int (pa_cons pe_int (pa_cons pe_int pa_nil))))) (pa_cons pe_int (pa_cons pe_int (pa_cons (pv 8) pa_nil)))))) pa_nil))))) (pss_cons (ps_for PassesOwn.never rfl (zba (pe_callB (cr_sortedD rfl) (by rfl) T.b_sorted bb_sorted (pa_cons (pv 3) pa_nil))) (pg_name (i := 7) sc.nd rfl (by first | exact .inl rfl | exact .inr rfl)) (pss_cons (ps_expr (pe_bm PySem.F.plainAttrs_list PySem.F.slot_list_append PySem.F.type_list_append mt_append (pv 5) (pa_cons (pe_tup (pa_cons (pv 7) (pa_cons (pe_tup (pa_cons pe_str (pa_cons pe_int (pa_cons pe_int pa_nil)))) (pa_cons (zak (hu_of hr) (pv 3) (pv 7) (fun _ _ => rfl)) (pa_cons pe_int (pa_cons pe_int pa_nil)))))) pa_nil))) (pss_one (ps_expr (pe_bm PySem.F.plainAttrs_list PySem.F.slot_list_append PySem.F.type_list_append mt_append (pv 5) (pa_cons (pe_tup (pa_cons (pv 7) (pa_cons (pe_tup (pa_cons pe_str (pa_cons (pe_tup (pa_cons pe_int pa_nil)) pa_nil))) (pa_cons (pe_callB (call_max2 rfl) (by rfl) T.b_max bb_max (pa_cons pe_int (pa_cons (pe_op op_sub (zak (hu_of hr) (pv 3) (pv 7) (fun _ _ => rfl)) pe_int) pa_nil))) (pa_cons pe_non (pa_cons pe_non pa_nil)))))) pa_nil)))))) (pss_one (ps_ret (zak (hu_of hr) (pv 5) (zaD G__law_off (hr.mono (by omega)) (by rfl) (pa_cons (pv 0) (pa_cons (pe_callB zaW (by rfl) T.b_len bb_len (pa_cons (pv 5) pa_nil)) pa_nil))) (fun _ _ => rfl))))))))))))))))
abbrev zbb : Stmt := top 39
theorem sc__law_alike : FnScope ["_law_found", "_law_due", "_law_k"] ["_law_found", "_law_due"] (defScope zbb) := ⟨rfl, rfl, rfl, by decide +kernel, rfl, by decide +kernel, by decide +kernel⟩
def t__law_alike (P : Program) (w : World) (K : PySem.W.Frag) (CA : Nat → Addr) (run : Ru) : TS := (tSeq (tIfS (tB (tIsN (tVar 1))) (tRet (tIsN (tVar 0))) tNext) (tSeq (tIfS (tB (tCB (rIsi K) (tCons (tVar 1) (tCons (tC (.ty "bool")) tNil)))) (tRet (tAndV (tCB (rIsi K) (tCons (tVar 0) (tCons (tC (.ty "bool")) tNil))) (tOp (rEqD K) (tVar 0) (tVar 1)))) tNext) (tSeq (tIfS (tB (tCB (rIsi K) (tCons (tVar 1) (tCons (tC (.ty "int")) tNil)))) (tRet (tAndV (tCB (rIsi K) (tCons (tVar 0) (tCons (tC (.ty "int")) tNil))) (tAndV (tNotV (tCB (rIsi K) (tCons (tVar 0) (tCons (tC (.ty "bool")) tNil)))) (tOp (rEqD K) (tVar 0) (tVar 1))))) tNext) (tSeq (tIfS (tB (tCB (rIsi K) (tCons (tVar 1) (tCons (tC (.ty "str")) tNil)))) (tRet (tAndV (tCB (rIsi K) (tCons (tVar 0) (tCons (tC (.ty "str")) tNil))) (tOp (rEqD K) (tVar 0) (tVar 1)))) tNext) (tSeq (tIfS (tOr (tTest (tOp (rNeD K) (tCB (rIsi K) (tCons (tVar 1) (tCons (tC (.ty "tuple")) tNil))) (tCB (rIsi K) (tCons (tVar 0) (tCons (tC (.ty "tuple")) tNil))))) (tTest (tOp (rNeD K) (tCB (rIsi K) (tCons (tVar 1) (tCons (tC (.ty "list")) tNil))) (tCB (rIsi K) (tCons (tVar 0) (tCons (tC (.ty "list")) tNil)))))) (tRet (tC (.bl false))) tNext) (tSeq (tIfS (tTest (tOp (rNeD K) (tCB (rLenA K) (tCons (tVar 0) tNil)) (tCB (rLenA K) (tCons (tVar 1) tNil)))) (tRet (tC (.bl false))) tNext) (tRet (tCB (rAll K) (tCons (tLc (iRng1 (tCons (tCB (rLenA K) (tCons (tVar 1) tNil)) tNil)) (gName 2) tYes (tCall (spOf (Wv P w K CA) 2 run) [] L2.E0 (tCons (tIxA K (tVar 0) (tVar 2)) (tCons (tIxA K (tVar 1) (tVar 2)) tNil))) [2]) tNil)))))))))
theorem sim__law_alike (run : Ru) : SimS (Wv P w K CA) (t__law_alike P w K CA run) (bo__law_alike run) := (zaf (zau (zav (sim_isN zab)) (zao (sim_isN zab)) zap) (zaf (zau (zav (zaM (t := .bool) zab)) (zao (zby (zaM (t := .bool) zab) (zag zab zab za5))) zap) (zaf (zau (zav (zaM (t := .int) zab)) (zao (zby (zaM (t := .int) zab) (zby (sim_not (zaM (t := .bool) zab)) (zag zab zab za5)))) zap) (zaf (zau (zav (zaM (t := .str) zab)) (zao (zby (zaM (t := .str) zab) (zag zab zab za5))) zap) (zaf (zau (zbk (zan (zag (zaM (t := .tuple) zab) (zaM (t := .tuple) zab) sim_ne)) (zan (zag (zaM (t := .list) zab) (zaM (t := .list) zab) sim_ne))) (zao za9) zap) (zaf (zau (zan (zag (zas (zaa zab zac) zbv) (zas (zaa zab zac) zbv) sim_ne)) (zao za9) zap) (zao (zas (zaa (zaN (js := [2]) (vs := [2]) (simI_range (zas (zaa zab zac) zbv)) zaF (by decide) zbC (zai (dfl := []) (zaa (zam zab zab) (zaa (zam zab zab) zac)) rfl rfl)) zac) sim_all))))))))
theorem ok__law_alike (T : Fx K mg) {f : Addr} {fd : FuncData} (F : FnP K "_law_alike" "_law_alike" zbb [] f fd)  (run : Ru) {n : Nat} (G__law_alike : Kn P w K mg base (1 + n) "_law_alike" ["_law_found", "_law_due"] [] (spOf (Wv P w K CA) 2 run)) : FnOk P w K mg base CX0 (1 + n + 1) f fd ["_law_found", "_law_due"] (spOf (Wv P w K CA) 2 (runOf 3 (bo__law_alike run))) := by
  have sc := sc__law_alike
  refine fn_ok F sc fun cdv A outer s H E hr => ⟨t__law_alike P w K CA run, ?_, sim__law_alike run⟩
  exact (pss_cons (ps_if (pt_cmp (pc_isN (pv 1)) rfl) (pss_one (ps_ret (pe_cmp (pc_isN (pv 0)) rfl))) pss_nil) (pss_cons (ps_if (pt_val (pe_callB call_isi (by rfl) T.b_isinstance zah (pa_cons (pv 1) (pa_cons (pe_bltn (by rfl) T.b_bool bb_bool rfl) pa_nil)))) (pss_one (ps_ret (pe_and (pe_callB call_isi (by rfl) T.b_isinstance zah (pa_cons (pv 0) (pa_cons (pe_bltn (by rfl) T.b_bool bb_bool rfl) pa_nil))) (pe_one (pe_cmpR (op_eqD hr.units) (pv 0) (pv 1) (nomark _)))))) pss_nil) (pss_cons (ps_if (pt_val (pe_callB call_isi (by rfl) T.b_isinstance zah (pa_cons (pv 1) (pa_cons (pe_bltn (by rfl) T.b_int bb_int rfl) pa_nil)))) (pss_one (ps_ret (pe_and (pe_callB call_isi (by rfl) T.b_isinstance zah (pa_cons (pv 0) (pa_cons (pe_bltn (by rfl) T.b_int bb_int rfl) pa_nil))) (pe_and (pe_not (pe_callB call_isi (by rfl) T.b_isinstance zah (pa_cons (pv 0) (pa_cons (pe_bltn (by rfl) T.b_bool bb_bool rfl) pa_nil)))) (pe_one (pe_cmpR (op_eqD hr.units) (pv 0) (pv 1) (nomark _))))))) pss_nil) (pss_cons (ps_if (pt_val (pe_callB call_isi (by rfl) T.b_isinstance zah (pa_cons (pv 1) (pa_cons (pe_bltn (by rfl) T.b_str bb_str rfl) pa_nil)))) (pss_one (ps_ret (pe_and (pe_callB call_isi (by rfl) T.b_isinstance zah (pa_cons (pv 0) (pa_cons (pe_bltn (by rfl) T.b_str bb_str rfl) pa_nil))) (pe_one (pe_cmpR (op_eqD hr.units) (pv 0) (pv 1) (nomark _)))))) pss_nil) (pss_cons (ps_if (PW.pt (pw_or (pt_cmpR (op_neD hr.units) (pe_callB call_isi (by rfl) T.b_isinstance zah (pa_cons (pv 1) (pa_cons (pe_bltn (by rfl) T.b_tuple zaL rfl) pa_nil))) (pe_callB call_isi (by rfl) T.b_isinstance zah (pa_cons (pv 0) (pa_cons (pe_bltn (by rfl) T.b_tuple zaL rfl) pa_nil))) (nomark _)) (pw_or1 (pt_cmpR (op_neD hr.units) (pe_callB call_isi (by rfl) T.b_isinstance zah (pa_cons (pv 1) (pa_cons (pe_bltn (by rfl) T.b_list bb_list rfl) pa_nil))) (pe_callB call_isi (by rfl) T.b_isinstance zah (pa_cons (pv 0) (pa_cons (pe_bltn (by rfl) T.b_list bb_list rfl) pa_nil))) (nomark _))))) (pss_one (ps_ret pe_bl)) pss_nil) (pss_cons (ps_if (pt_cmpR (op_neD hr.units) (pe_callB zaW (by rfl) T.b_len bb_len (pa_cons (pv 0) pa_nil)) (pe_callB zaW (by rfl) T.b_len bb_len (pa_cons (pv 1) pa_nil)) (nomark _)) (pss_one (ps_ret pe_bl)) pss_nil) (pss_one (ps_ret (pe_callB (cr_all rfl) (by rfl) T.b_all bb_all (pa_cons (pe_lc (own := [("_law_k", 2)]) rfl sc.nd (pi_range1 (by rfl) T.b_range (pa_cons (pe_callB zaW (by rfl) T.b_len bb_len (pa_cons (pv 1) pa_nil)) pa_nil)) (blkOk_by (by kernel_rfl)) (fun _ _ _ _ _ => (pg_name (i := 2) sc.nd rfl (by first | exact .inl rfl | exact .inr rfl))) (fun _ _ _ _ _ => pts_nil) (fun _ _ _ _ _ => (zaD G__law_alike (hr.mono (by omega)) (by rfl) (pa_cons (zak (hu_of hr) (pv 0) (pv 2) (fun _ _ => rfl)) (pa_cons (zak (hu_of hr) (pv 1) (pv 2) (fun _ _ => rfl)) pa_nil))))) pa_nil))))))))))
end
end Ev
namespace Ev
open PySem PySem.Spec PyProof.Rows L2 LamX NdefX
section
variable {P : Program} {w : World} {K : PySem.W.Frag} {mg : Str → Option Value} {base : Heap} {CA xa : Nat → Addr} {le : Addr}
theorem okY_need_history (T : Fx K mg) (nx5 : NumX P w K mg base xa 5 "BadHistory" "number") {f : Addr} {fd : FuncData} (F : FnP K "need_history" "need_history" za8 [] f fd) (G_is_row : Kn P w K mg base 6 "is_row" ["row"] [] (spOf (Wv P w K CA) 1 zaV))  : FnOk P w K mg base (L2N.CX P w) 7 f fd ["rows"] (spY (Wv P w K CA) xa 1 zaC) := by
  have sc := sc_need_history
  refine fnY_ok F sc fun cdv A outer s H E hr => ⟨fun E => (tSeq (tAsg tDNewK (gName 1)) (tFor (iEnum K (tCons (tVar 0) tNil)) (gTup K 2 (gNames [2, 3])) (tSeq (tIfS (tOr (tTest (tOp rGeI (tVar 2) (tC (.int 12)))) (tNot (tB (tCall (spOf (Wv P w K CA) 1 zaV) [] L2.E0 (tCons (tVar 3) tNil))))) (fun _ σ H => tMkO (xa 5) (spNum K (fieldOf 5)) [] (tCons (tVar 2) tNil) σ H fun cls d H' => E cls d H') tNext) (tSeq (tIfS (tAnd (tTest (tOp (rInA K) (tIxA K (tVar 3) (tC (.int 0))) (tVar 1))) (tTest (tOp rGeI (tIxA K (tVar 1) (tIxA K (tVar 3) (tC (.int 0)))) (tIxA K (tVar 3) (tC (.int 2)))))) (fun _ σ H => tMkO (xa 5) (spNum K (fieldOf 5)) [] (tCons (tVar 2) tNil) σ H fun cls d H' => E cls d H') tNext) (tSet (tVar 1) (tIxA K (tVar 3) (tC (.int 0))) (tIf (tB (tIsN (tIxA K (tVar 3) (tC (.int 3))))) (tIxA K (tVar 3) (tC (.int 2))) (tIxA K (tVar 3) (tC (.int 3))))))))), ?_, (simY_seq (simY_lift (zar sim_dnewK)) (simY_for simI_enumV (tg_tup (is := [2, 3])) (simY_seq (simY_if (zbk (zan (zag zab zad sim_ge)) (zaZ (zav (zai (dfl := []) (zaa zab zac) rfl rfl)))) (simY_raise nx5.oex nx5.no) (simY_lift zap)) (simY_seq (simY_if (simT_and (zan (zag (zam zab zad) zab sim_in)) (zan (zag (zam zab (zam zab zad)) (zam zab zad) sim_ge))) (simY_raise nx5.oex nx5.no) (simY_lift zap)) (simY_lift (zbl (zam zab zad) (sim_if (zav (sim_isN (zam zab zad))) (zam zab zad) (zam zab zad))))))))⟩
  have tk : TkE (cxOf (L2N.CX P w) P w K mg base ["rows", "ends", "number", "row"] "need_history" (defScope za8) f cdv A outer s H E) E := tk_fn
  exact (pss_cons (ps_set (i := 1) sc.nd rfl (by first | exact .inl rfl | exact .inr rfl) pe_dnewK) (pss_one (ps_for (passes_of rfl) rfl (pi_enum (by rfl) T.b_enumerate (pa_cons (pv 0) pa_nil)) (pg_tup (by rfl) (pgs_cons (pg_name (i := 2) sc.nd rfl (by first | exact .inl rfl | exact .inr rfl)) (pgs_cons (pg_name (i := 3) sc.nd rfl (by first | exact .inl rfl | exact .inr rfl)) pgs_nil))) (pss_cons (ps_if (PW.pt (pw_or (pt_cmpR op_ge (pv 2) (zbL T.c_MOST_ROWS (by rfl)) (nomark _)) (pw_or1 (pt_not (pt_val (zaD G_is_row (hr.mono (by omega)) (by rfl) (pa_cons (pv 3) pa_nil))))))) (pss_one (ps_raiseN nx5 (hr.mono (by omega)) tk rfl (by rfl) (pv 2))) pss_nil) (pss_cons (ps_if (PW.pt (pw_and (pt_cmpR (op_inA (u65 hr)) (zak (hu_of hr) (pv 3) pe_int (fun _ _ => rfl)) (pv 1) (by rfl)) (pw_and1 (pt_cmpR op_ge (zak (hu_of hr) (pv 1) (zak (hu_of hr) (pv 3) pe_int (fun _ _ => rfl)) (fun _ _ => rfl)) (zak (hu_of hr) (pv 3) pe_int (fun _ _ => rfl)) (nomark _))))) (pss_one (ps_raiseN nx5 (hr.mono (by omega)) tk rfl (by rfl) (pv 2))) pss_nil) (pss_one (zbz (u16 hr) (pv 1) (zak (hu_of hr) (pv 3) pe_int (fun _ _ => rfl)) (pe_ifExp (pt_cmp (pc_isN (zak (hu_of hr) (pv 3) pe_int (fun _ _ => rfl))) rfl) (zak (hu_of hr) (pv 3) pe_int (fun _ _ => rfl)) (zak (hu_of hr) (pv 3) pe_int (fun _ _ => rfl))))))))))
theorem okY_judged (T : Fx K mg) (nx5 : NumX P w K mg base xa 5 "BadHistory" "number") {f : Addr} {fd : FuncData} (F : FnP K "judged" "judged" st_judged [] f fd)  (GX_need_history : KnX P w K mg base 7 "need_history" ["rows"] (spY (Wv P w K CA) xa 1 zaC)) : FnOk P w K mg base (L2N.CX P w) 8 f fd ["rows"] (spY (Wv P w K CA) xa 1 za1) := by
  have sc := sc_judged
  refine fnY_ok F sc fun cdv A outer s H E hr => ⟨fun E => (tSeq (tDrop (tCall (spY (Wv P w K CA) xa 1 zaC) [] E (tCons (tVar 0) tNil))) tNever), ?_, (simY_fst (simY_expr (simEY_call (run := zaC) (zaa zab zac) rfl)))⟩
  have tk : TkE (cxOf (L2N.CX P w) P w K mg base ["rows"] "judged" (defScope st_judged) f cdv A outer s H E) E := tk_fn
  exact (pss_cons (ps_expr (pe_knX GX_need_history tk (hr.mono (by omega)) (by rfl) (pa_cons (pv 0) pa_nil))) pss_never)
theorem okY_written (T : Fx K mg) (nx5 : NumX P w K mg base xa 5 "BadHistory" "number") {f : Addr} {fd : FuncData} (F : FnP K "written" "written" st_written [] f fd)  (GX_need_history : KnX P w K mg base 7 "need_history" ["rows"] (spY (Wv P w K CA) xa 1 zaC)) : FnOk P w K mg base (L2N.CX P w) 8 f fd ["rows"] (spY (Wv P w K CA) xa 1 zaP) := by
  have sc := sc_written
  refine fnY_ok F sc fun cdv A outer s H E hr => ⟨fun E => (tSeq (tDrop (tCall (spY (Wv P w K CA) xa 1 zaC) [] E (tCons (tVar 0) tNil))) tNever), ?_, (simY_fst (simY_expr (simEY_call (run := zaC) (zaa zab zac) rfl)))⟩
  have tk : TkE (cxOf (L2N.CX P w) P w K mg base ["rows", "row"] "written" (defScope st_written) f cdv A outer s H E) E := tk_fn
  exact (pss_cons (ps_expr (pe_knX GX_need_history tk (hr.mono (by omega)) (by rfl) (pa_cons (pv 0) pa_nil))) pss_never)
abbrev zaU : Stmt := mth 7 0
theorem sc_BadHistory___init__ : FnScope ["self", "number"] ["self", "number"] (defScope zaU) := ⟨rfl, rfl, rfl, by decide +kernel, rfl, by decide +kernel, by decide +kernel⟩
theorem ok_BadHistory___init__ {L : Addr} (lc : LeC K mg L) {f : Addr} {fd : FuncData} (F : FnP K "__init__" "BadHistory.__init__" zaU [] f fd) : FnOk P w K mg base CX0 1 f fd ["self", "number"] (spNum K (fieldOf 5)) := by
  have sc := sc_BadHistory___init__
  refine initN_ok F sc fun cdv A outer s H E => ?_
  exact pss_cons (ps_expr (pe_leinit (by rfl) lc.gl lc.rd lc.ga lc.vV (pa_cons (pv 0) (pa_cons (pv 1) pa_nil)))) (pss_one (ps_ost (pv 0) (pv 1)))
theorem alikeH_ok (T : Fx K mg) {f : Addr} {fd : FuncData} (F : FnP K "_law_alike" "_law_alike" zbb [] f fd) : L2H.FnH P w K mg base CX0 1 f fd ["_law_found", "_law_due"] spAl := by
  obtain ⟨oc, od, dV, kV, doc, pm, an, cdv, ct, osl, rfl, lk, hcd, _, _⟩ := F.ex
  have sc := sc__law_alike
  refine L2H.fn_ofH lk hcd sc (fun vs H Q E ⟨i, e, _⟩ => by rw [e]; rfl) fun A outer s H vs Q E p hot hr h => ?_
  obtain ⟨i, rfl, hQ⟩ := h
  have hu : (A.deeper (envOfC "_law_alike" (defScope zbb) s.heap.objs.size f cdv)).units + 64 < cLine := by have := hr.un; omega
  refine ⟨tAl K, ?_, al_sem (P := P) (w := w) rfl rfl rfl hQ⟩
  exact pss_cons (ps_if (pt_cmp (pc_isN (pv 1)) rfl) pss_never pss_nil) (pss_cons (ps_if (pt_val (pe_callB call_isi (by rfl) T.b_isinstance zah (pa_cons (pv 1) (pa_cons (pe_bltn (by rfl) T.b_bool bb_bool rfl) pa_nil)))) pss_never pss_nil)
    (pss_cons (ps_if (pt_val (pe_callB call_isi (by rfl) T.b_isinstance zah (pa_cons (pv 1) (pa_cons (pe_bltn (by rfl) T.b_int bb_int rfl) pa_nil)))) (pss_one (ps_ret (pe_and (pe_callB call_isi (by rfl) T.b_isinstance zah (pa_cons (pv 0) (pa_cons (pe_bltn (by rfl) T.b_int bb_int rfl) pa_nil))) (pe_and (pe_not (pe_callB call_isi (by rfl) T.b_isinstance zah (pa_cons (pv 0) (pa_cons (pe_bltn (by rfl) T.b_bool bb_bool rfl) pa_nil)))) (pe_one (pe_cmpR (op_eqD hu) (pv 0) (pv 1) (nomark _))))))) pss_nil) pss_never))
abbrev zbj : Stmt := top 41
theorem sc__law_refused : FnScope ["_law_work", "_law_word", "_law_value", "_law_kinds", "_law_words", "_law_one", "e"] ["_law_work", "_law_word", "_law_value"] (defScope zbj) := ⟨rfl, rfl, rfl, by decide +kernel, rfl, by decide +kernel, by decide +kernel⟩
theorem bb_ValueError : bootBuiltins "ValueError" = some (.type "ValueError") := by decide +kernel
structure XN (K : PySem.W.Frag) (xa : Nat → Addr) : Prop where
  no : ∀ c, c < 7 → PySem.W.findIn K (.ref (xa c)) "number" = some none ∧ PySem.W.findIn K (.ref (xa c)) "row" = some none
  xf : ∀ c, c < 7 → XfC K (xa c)
theorem ref2_ok (T : Fx K mg) (xf : XF K mg xa le) (xn : XN K xa) {k : Nat} {g fa : Addr} {fd fda : FuncData} (F : FnP K "_law_refused" "_law_refused" zbj [] g fd) (Fa : FnP K "_law_alike" "_law_alike" zbb [] fa fda) (a_ref : mg "_law_alike" = some (.ref fa)) : RefOk2 P w K mg base xa (k + 2) g := by
  intro A outer s H f Fl fr ws tl word i Q tw tv room e0 Ce nf at_ L mono q
  have Ah : L2H.FnH P w K mg base CX0 1 fa fda ["_law_found", "_law_due"] spAl := alikeH_ok T Fa
  have a_keep : PySem.W.keepIn K (.ref fa) = true := Fa.kp
  have a_bind := Fa.bindsN (ps := ["_law_found", "_law_due"]) (fun _ _ _ _ _ _ us hl => match us, hl with | [_, _], _ => rfl)
  have hb := F.bindsN (ps := ["_law_work", "_law_word", "_law_value"]) (fun _ _ _ _ _ _ us hl => match us, hl with | [_, _, _], _ => rfl)
  have bi := hb s [.ref f, .str word tw, .int i tv] (e0.mod.kin.keeps fun b o z => (e0.bs b o z).1) rfl
  obtain ⟨oc, od, dV, kV, doc, pm, an, cdv, ct, osl, rfl, lk, hcd, _, _⟩ := F.ex
  have sc := sc__law_refused
  refine LamX.run_ofS (N := ["_law_work", "_law_word", "_law_value", "_law_kinds", "_law_words", "_law_one", "e"]) (ps := ["_law_work", "_law_word", "_law_value"]) (us := [.ref f, .str word tw, .int i tv]) (vs := [.ref f, .str word, .int i]) lk hcd sc room e0 bi (.cons rfl (.cons ⟨tw, rfl⟩ (.cons ⟨tv, rfl⟩ .nil))) rfl fun hr => ?_
  let X : Cx := cxOf CX0 P w K mg base ["_law_work", "_law_word", "_law_value", "_law_kinds", "_law_words", "_law_one", "e"] "_law_refused" (defScope zbj) g cdv A outer s H L2.E0
  let ts : Addr → Value → Option Addr → TS := fun a cls d D σ H => ∃ c, c < 7 ∧ cls = .ref (xa c) ∧ tSuite2 K a cls d (xa c) c D σ H
  refine ⟨_, pss_cons (L2N.ps_try_as (X := X) (i := 6) (c := .ref le) (tb := fun W => tDrop (tAct f Fl tl W)) (ts := ts) (Wout := fun _ _ _ _ => False) rfl rfl sc.nd rfl rfl ⟨by rfl, by decide, .inl xf.gl⟩ (fun _ _ ⟨_, _, _, _, _, _, _, _, _, _, _, _, _, _, _, _, z⟩ => z.elim)
    (fun W pn xe tk _ => pss_one (ps_expr (pe_act tk hr L Ce nf rfl rfl (.inl rfl)))) (fun a oe cls d pn hz hf => ⟨fun pins s σ H D I ⟨c, hc, e1, h⟩ => ?_⟩)) (pss_one (ps_ret pe_bl)), ?_⟩
  · subst e1
    have call : CallR (X.suite a ((a, oe) :: pn)) (.builtin "isinstance") (rIsE2 X.K (xa c) a d) := call_isE2 (xf.exc c hc) hz.zc hf
    have hot : L2H.HotC (X.suite a ((a, oe) :: pn)) := by
      obtain ⟨vs, hd⟩ := hf
      exact ⟨(a, oe), ⟨rfl, vs, hd, hz.2.2 vs hd⟩, List.mem_cons_self⟩
    have hu := hr.units
    exact (show PSs (X.suite a ((a, oe) :: pn)) _ (tSuite2 K a (.ref (xa c)) d (xa c) c) from (pss_cons (PS.imp (ps_set (i := 3) sc.nd rfl (by first | exact .inl rfl | exact .inr rfl) (pe_lst (pa_cons (pe_callB call (by rfl) T.b_isinstance zah (pa_cons (pv 6) (pa_cons (pe_glob (v := .ref (xa 0)) (by rfl) xf.g0 rfl) pa_nil))) (pa_cons (pe_callB call (by rfl) T.b_isinstance zah (pa_cons (pv 6) (pa_cons (pe_glob (v := .ref (xa 1)) (by rfl) xf.g1 rfl) pa_nil))) (pa_cons (pe_callB call (by rfl) T.b_isinstance zah (pa_cons (pv 6) (pa_cons (pe_glob (v := .ref (xa 2)) (by rfl) xf.g2 rfl) pa_nil))) (pa_cons (pe_callB call (by rfl) T.b_isinstance zah (pa_cons (pv 6) (pa_cons (pe_glob (v := .ref (xa 3)) (by rfl) xf.g3 rfl) pa_nil))) pa_nil)))))) (s1_imp2 xf hc))
      (pss_cons (PS.imp (ps_set (i := 3) sc.nd rfl (by first | exact .inl rfl | exact .inr rfl) (pe_op zaA (pv 3) (pe_lst (pa_cons (pe_callB call (by rfl) T.b_isinstance zah (pa_cons (pv 6) (pa_cons (pe_glob (v := .ref (xa 4)) (by rfl) xf.g4 rfl) pa_nil))) (pa_cons (pe_callB call (by rfl) T.b_isinstance zah (pa_cons (pv 6) (pa_cons (pe_glob (v := .ref (xa 5)) (by rfl) xf.g5 rfl) pa_nil))) (pa_cons (pe_callB call (by rfl) T.b_isinstance zah (pa_cons (pv 6) (pa_cons (pe_glob (v := .ref (xa 6)) (by rfl) xf.g6 rfl) pa_nil))) pa_nil)))))) (s2_imp2 xf hc))
      (pss_cons (ps_set (i := 4) sc.nd rfl (by first | exact .inl rfl | exact .inr rfl) (pe_lst (pa_cons pe_str (pa_cons pe_str (pa_cons pe_str (pa_cons pe_str (pa_cons pe_str (pa_cons pe_str (pa_cons pe_str pa_nil)))))))))
      (pss_cons (PS.imp (ps_if (PW.pt (pw_or (pt_not (pt_val (pe_callB call (by rfl) T.b_isinstance zah (pa_cons (pv 6) (pa_cons (pe_bltn (v := .ty "ValueError") (by rfl) T.b_ValueError bb_ValueError rfl) pa_nil))))) (pw_or1 (pt_cmpR (op_neD hu) (pv 3) (pe_lcl (own := [("_law_one", 5)]) sc.nd (pv 4) (blkOk_by (by kernel_rfl)) (fun pins σ => ⟨mood_hot hot, fun s3 H3 C cl it I f => ⟨pg_name (i := 5) sc.nd rfl (by first | exact .inl rfl | exact .inr rfl), pts_nil, pe_cmpR (op_eqD hu) (pv 1) (pv 5) (nomark _)⟩⟩)) (nomark _))))) (pss_one (ps_ret pe_bl)) pss_nil) (s4_imp2 xf hc))
      (pss_cons (ps_if (pt_cmpR (op_eqD hu) (pv 1) pe_str (nomark _)) (pss_one (ps_ret (L2H.pe_callH Ah (roomH_mk (hr.mono (by omega)) _) hot (by rfl) a_ref a_keep a_bind (fun _ _ _ _ _ _ I c => c.elim) (pa_cons (pe_xf (xn.xf c hc) (xn.no c hc).1 hz.zc hf (pv 6)) (pa_cons (pv 2) pa_nil))))) pss_nil)
      (pss_one (ps_ret (pe_or (pe_cmpR (op_neD hu) (pv 1) pe_str (nomark _)) (pe_one (L2H.pe_callH Ah (roomH_mk (hr.mono (by omega)) _) hot (by rfl) a_ref a_keep a_bind (fun _ _ _ _ _ _ I c => c.elim) (pa_cons (pe_xf (xn.xf c hc) (xn.no c hc).2 hz.zc hf (pv 6)) (pa_cons (pv 2) pa_nil))))))))))))).run pins s σ H D I h
  · refine ⟨rfl, at_, mono _ _ _ (fun cls d H' ⟨c, hc, e1, ew, e5, e6, hq⟩ => ⟨true, by rw [e1]; exact xf.exm c (by omega), fun _ a na => ⟨c, hc, e1, ?_⟩, (fun z => by cases z)⟩) q⟩
    subst ew
    rw [e1]
    exact suite2_sem (P := P) (w := w) hc rfl rfl rfl rfl e5 e6 hq
end
end Ev
namespace Ev
open PySem PySem.Spec PyProof.Rows L2 LamX NdefX
abbrev st_law : Stmt := top 48
theorem sc_law : FnScope ["_law_script", "_law_d", "_law_turn", "_law_rows", "_law_at", "_law_bad", "_law_works", "_law_long", "_law_k", "_law_work"] ["_law_script"] (defScope st_law) := ⟨rfl, rfl, rfl, by decide +kernel, rfl, by decide +kernel, by decide +kernel⟩
def bodyOf : Stmt → List Stmt
  | .For _ _ b _ _ => b
  | s => [s]
def stA (i : Nat) : Stmt := (bodyOf ((defBody st_law).getD 1 (.Pass ⟨0, 0, 0, 0⟩))).getD i (.Pass ⟨0, 0, 0, 0⟩)
def lamsOf : Stmt → List Expr
  | .Assign _ (.List es _) _ => es
  | _ => []
def lamA (i j : Nat) : Expr := (lamsOf (stA i)).getD j (.Name "" ⟨0, 0, 0, 0⟩)
def paOf : Expr → Arguments
  | .Lambda a _ _ _ => a
  | _ => defArgs st_law
def bdOf : Expr → Expr
  | .Lambda _ b _ _ => b
  | e => e
def scOf : Expr → Scope
  | .Lambda _ _ s _ => s
  | _ => defScope st_law
abbrev lsOf (d : Bool) (cells : List (Str × Addr)) (e : Expr) : Ls := ⟨d, paOf e, bdOf e, scOf e, cloFrom cells (scOf e).names []⟩
def capB (nsc : Scope) (fr : List Str) : Bool := (nsc.names.all fun y => !decide (y.2 = .free) || decide ((defScope st_law).names.lookup y.1 = some .cell)) && fr.all fun y => decide ((y, NameKind.free) ∈ nsc.names)
theorem capB_free {nsc : Scope} {fr : List Str} (h : capB nsc fr = true) : ∀ y ∈ nsc.names, y.2 = .free → (defScope st_law).names.lookup y.1 = some .cell := fun y hy e => by
  unfold capB at h
  simp only [Bool.and_eq_true, List.all_eq_true, Bool.or_eq_true, Bool.not_eq_true', decide_eq_false_iff_not, decide_eq_true_eq] at h
  exact (h.1 y hy).elim (fun z => absurd e z) id
section
variable {P : Program} {w : World} {K : PySem.W.Frag} {mg : Str → Option Value} {base : Heap} {CA xa : Nat → Addr} {le : Addr}
abbrev XL (P : Program) (w : World) (K : PySem.W.Frag) (mg : Str → Option Value) (base : Heap) (f c : Addr) (A : Around) (outer : List PySem.Env) (s : Shared) (H : Hp) (E : XK) : Cx := (cxOf CX0 P w K mg base ["_law_script", "_law_d", "_law_turn", "_law_rows", "_law_at", "_law_bad", "_law_works", "_law_long", "_law_k", "_law_work"] "law" (defScope st_law) f (.ref c) A outer s H E).nox
theorem caps_law {f c : Addr} {A : Around} {outer : List PySem.Env} {s : Shared} {H : Hp} {E : XK} {nsc : Scope} {fr : List Str} {js : List Nat} (h : capB nsc fr = true) (hjs : js.map (fun j => (["_law_script", "_law_d", "_law_turn", "_law_rows", "_law_at", "_law_bad", "_law_works", "_law_long", "_law_k", "_law_work"] : List Str)[j]?) = fr.map some) : Caps (XL P w K mg base f c A outer s H E) (cloFrom (XL P w K mg base f c A outer s H E).env.cells nsc.names []) fr js := by
  have hf : ∀ y ∈ nsc.names, y.2 = .free → ∃ c', (XL P w K mg base f c A outer s H E).env.cells.lookup y.1 = some c' := fun y hy e => cell_has (capB_free h y hy e)
  have hfr : ∀ y ∈ fr, (y, NameKind.free) ∈ nsc.names := fun y hy => by
    unfold capB at h
    simp only [Bool.and_eq_true, List.all_eq_true, decide_eq_true_eq] at h
    exact h.2 y hy
  exact ⟨fun y c e => clo_cm hf e, fun y hy => .inl (capB_free h _ (hfr y hy) rfl), fun y hy c hc => clo_has hf (hfr y hy) hc, hjs⟩
theorem cb1 : capB (scOf (lamA 3 0)) ["_law_bad"] = true := by decide +kernel
theorem rz1 (T : Fx K mg) (GX_judged : KnX P w K mg base 8 "judged" ["rows"] (spY (Wv P w K CA) xa 1 za1)) {X0 : Cx} {q : Str} {ρ : Env} {σ : L2.St} {S S' : Store} {ss : List Sl} {num : Int} (cp : Caps X0 (cloFrom X0.env.cells (scOf (lamA 3 0)).names []) ["_law_bad"] [5]) (hj : ([5] : List Nat).map (fun j => ρ[j]?) = ss.map some) (hno : ∀ s ∈ ss, s ≠ .no) (hl : ss.length = 1) (e : gy1 ss S = some (5, some num, S')) : RzAt2 P w mg base xa 8 X0 (Wv P w K CA) q ρ σ (wordOf 5) num (lsOf false X0.env.cells (lamA 3 0)) S S' := by
  exact rzY_0 (N := ["_law_bad"]) (t := fun E => (tCall (spY (Wv P w K CA) xa 1 za1) [] E (tCons (tVar 0) tNil))) (by decide) (fun _ => rfl) (fun h => absurd h (by decide)) rfl cp hj hno (by rw [hl]; rfl) (show NScope ["_law_bad"] [] ["_law_bad"] (scOf (lamA 3 0)) from nscope_by (by decide +kernel)) (fun _ _ _ _ => rfl)
    (fun c' dv f A outer s H E hr => by
      have tk : TkE (ncx (L2N.CX P w) P w K mg base ["_law_bad"] ((lsOf false X0.env.cells (lamA 3 0)).lm q c' dv).nf f A outer s H E) E := tk_ncx
      exact (pe_knX GX_judged tk (hr.mono (by omega)) (by rfl) (pa_cons (pv 0) pa_nil)))
    (simEY_call (run := za1) (zaa zab zac) rfl) e
theorem cb2 : capB (scOf (lamA 3 1)) ["_law_bad"] = true := by decide +kernel
theorem rz2 (T : Fx K mg) (GX_written : KnX P w K mg base 8 "written" ["rows"] (spY (Wv P w K CA) xa 1 zaP)) {X0 : Cx} {q : Str} {ρ : Env} {σ : L2.St} {S S' : Store} {ss : List Sl} {num : Int} (cp : Caps X0 (cloFrom X0.env.cells (scOf (lamA 3 1)).names []) ["_law_bad"] [5]) (hj : ([5] : List Nat).map (fun j => ρ[j]?) = ss.map some) (hno : ∀ s ∈ ss, s ≠ .no) (hl : ss.length = 1) (e : gy2 (.v (.int 0) :: ss) S = some (5, some num, S')) : RzAt2 P w mg base xa 8 X0 (Wv P w K CA) q ρ σ (wordOf 5) num (lsOf true X0.env.cells (lamA 3 1)) S S' := by
  exact rzY_1 (N := ["_law_a", "_law_bad"]) (p := "_law_a") (t := fun E => (tCall (spY (Wv P w K CA) xa 1 zaP) [] E (tCons (tVar 1) tNil))) (by decide) (fun _ => rfl) (fun h => absurd h (by decide)) rfl cp hj hno (by rw [hl]; rfl) (show NScope ["_law_a", "_law_bad"] ["_law_a"] ["_law_bad"] (scOf (lamA 3 1)) from nscope_by (by decide +kernel)) (fun _ _ _ _ _ => ⟨_, rfl, fun _ => rfl⟩)
    (fun c' dv f A outer s H E hr => by
      have tk : TkE (ncx (L2N.CX P w) P w K mg base ["_law_a", "_law_bad"] ((lsOf true X0.env.cells (lamA 3 1)).lm q c' dv).nf f A outer s H E) E := tk_ncx
      exact (pe_knX GX_written tk (hr.mono (by omega)) (by rfl) (pa_cons (pv 1) pa_nil)))
    (simEY_call (run := zaP) (zaa zab zac) rfl) e
theorem cb3 : capB (scOf (lamA 6 0)) ["_law_long"] = true := by decide +kernel
theorem rz3 (T : Fx K mg) (GX_judged : KnX P w K mg base 8 "judged" ["rows"] (spY (Wv P w K CA) xa 1 za1)) {X0 : Cx} {q : Str} {ρ : Env} {σ : L2.St} {S S' : Store} {ss : List Sl} {num : Int} (cp : Caps X0 (cloFrom X0.env.cells (scOf (lamA 6 0)).names []) ["_law_long"] [7]) (hj : ([7] : List Nat).map (fun j => ρ[j]?) = ss.map some) (hno : ∀ s ∈ ss, s ≠ .no) (hl : ss.length = 1) (e : gy3 ss S = some (5, some num, S')) : RzAt2 P w mg base xa 8 X0 (Wv P w K CA) q ρ σ (wordOf 5) num (lsOf false X0.env.cells (lamA 6 0)) S S' := by
  exact rzY_0 (N := ["_law_long"]) (t := fun E => (tCall (spY (Wv P w K CA) xa 1 za1) [] E (tCons (tVar 0) tNil))) (by decide) (fun _ => rfl) (fun h => absurd h (by decide)) rfl cp hj hno (by rw [hl]; rfl) (show NScope ["_law_long"] [] ["_law_long"] (scOf (lamA 6 0)) from nscope_by (by decide +kernel)) (fun _ _ _ _ => rfl)
    (fun c' dv f A outer s H E hr => by
      have tk : TkE (ncx (L2N.CX P w) P w K mg base ["_law_long"] ((lsOf false X0.env.cells (lamA 6 0)).lm q c' dv).nf f A outer s H E) E := tk_ncx
      exact (pe_knX GX_judged tk (hr.mono (by omega)) (by rfl) (pa_cons (pv 0) pa_nil)))
    (simEY_call (run := za1) (zaa zab zac) rfl) e
theorem cb4 : capB (scOf (lamA 6 1)) ["_law_long"] = true := by decide +kernel
theorem rz4 (T : Fx K mg) (GX_written : KnX P w K mg base 8 "written" ["rows"] (spY (Wv P w K CA) xa 1 zaP)) {X0 : Cx} {q : Str} {ρ : Env} {σ : L2.St} {S S' : Store} {ss : List Sl} {num : Int} (cp : Caps X0 (cloFrom X0.env.cells (scOf (lamA 6 1)).names []) ["_law_long"] [7]) (hj : ([7] : List Nat).map (fun j => ρ[j]?) = ss.map some) (hno : ∀ s ∈ ss, s ≠ .no) (hl : ss.length = 1) (e : gy4 (.v (.int 0) :: ss) S = some (5, some num, S')) : RzAt2 P w mg base xa 8 X0 (Wv P w K CA) q ρ σ (wordOf 5) num (lsOf true X0.env.cells (lamA 6 1)) S S' := by
  exact rzY_1 (N := ["_law_a", "_law_long"]) (p := "_law_a") (t := fun E => (tCall (spY (Wv P w K CA) xa 1 zaP) [] E (tCons (tVar 1) tNil))) (by decide) (fun _ => rfl) (fun h => absurd h (by decide)) rfl cp hj hno (by rw [hl]; rfl) (show NScope ["_law_a", "_law_long"] ["_law_a"] ["_law_long"] (scOf (lamA 6 1)) from nscope_by (by decide +kernel)) (fun _ _ _ _ _ => ⟨_, rfl, fun _ => rfl⟩)
    (fun c' dv f A outer s H E hr => by
      have tk : TkE (ncx (L2N.CX P w) P w K mg base ["_law_a", "_law_long"] ((lsOf true X0.env.cells (lamA 6 1)).lm q c' dv).nf f A outer s H E) E := tk_ncx
      exact (pe_knX GX_written tk (hr.mono (by omega)) (by rfl) (pa_cons (pv 1) pa_nil)))
    (simEY_call (run := zaP) (zaa zab zac) rfl) e
end
end Ev
namespace Ev
open PySem PySem.Spec PyProof.Rows L2 LamX NdefX
section
variable {P : Program} {w : World} {K : PySem.W.Frag} {mg : Str → Option Value} {base : Heap} {CA xa : Nat → Addr} {le : Addr}
def tA (P : Program) (w : World) (K : PySem.W.Frag) (CA : Nat → Addr) : TS := (tAsg (tCall (spOf (Wv P w K CA) 2 zaT) [] L2.E0 (tCons (tVar 0) (tCons (tC (.int 0)) tNil))) (gName 1))
def tp0 (P : Program) (w : World) (K : PySem.W.Frag) (CA : Nat → Addr) : TS := (tAsg (tCall (spOf (Wv P w K CA) 2 zaJ) [] L2.E0 (tCons (tVar 1) (tCons (tC (.int 11)) tNil))) (gName 3))
def tp1 (P : Program) (w : World) (K : PySem.W.Frag) (CA : Nat → Addr) : TS := (tAsg (tCall (spOf (Wv P w K CA) 2 zae) [] L2.E0 (tCons (tVar 1) (tCons (tOp (rAddA K) (tCB (rLenA K) (tCons (tVar 3) tNil)) (tC (.int 1))) tNil))) (gName 4))
def tp2 (P : Program) (w : World) (K : PySem.W.Frag) (CA : Nat → Addr) : TS := (tAsg (tOp (rAddA K) (tOp (rAddA K) (tOp (rAddA K) (tSl (rSlB K) (tVar 3) tNoPart (tPart (tVar 4))) (tLst (tCons (tCall (spOf (Wv P w K CA) 3 zaO) [] L2.E0 (tCons (tVar 1) (tCons (tVar 3) (tCons (tVar 4) tNil)))) tNil))) (tSl (rSlB K) (tVar 3) (tPart (tVar 4)) tNoPart)) (tOp (rMulA K) (tLst (tCons (tTup tNil) tNil)) (tCall (spOf (Wv P w K CA) 2 zae) [] L2.E0 (tCons (tVar 1) (tCons (tC (.int 2)) tNil))))) (gName 5))
def tq2 (P : Program) (w : World) (K : PySem.W.Frag) (CA : Nat → Addr) : TS := (tAsg (tLc (iRng1 (tCons (tOp (rAddA K) (tC (.int 13)) (tCall (spOf (Wv P w K CA) 2 zae) [] L2.E0 (tCons (tVar 1) (tCons (tC (.int 3)) tNil)))) tNil)) (gName 8) tYes (tTup (tCons (tC (.int 2)) (tCons (tTup (tCons (tC (.str "look")) (tCons (tTup (tCons (tC (.int 7)) tNil)) tNil))) (tCons (tOp (rMulA K) (tC (.int 2)) (tVar 8)) (tCons (tOp (rAddA K) (tOp (rMulA K) (tC (.int 2)) (tVar 8)) (tC (.int 1))) (tCons (tTup (tCons (tC (.int 0)) tNil)) tNil)))))) [8]) (gName 7))
def tq3 (P : Program) (w : World) (K : PySem.W.Frag) (CA : Nat → Addr) : TS := (tIfS (tOr (tNot (tB (tCB (rIsi K) (tCons (tCall (spOf (Wv P w K CA) 1 zbR) [] L2.E0 (tCons (tVar 3) tNil)) (tCons (tC (.ty "str")) tNil))))) (tB (tIsN (tCall (spOf (Wv P w K CA) 1 ev_judged) [] L2.E0 (tCons (tSl (rSlB K) (tVar 7) tNoPart (tPart (tC (.int 12)))) tNil))))) (tRet (tC (.bl false))) tNext)
def tm3 (P : Program) (w : World) (K : PySem.W.Frag) (mg : Str → Option Value) (base : Heap) (xa : Nat → Addr) (PT : Addr) (q : Str) (X : Cx) : TS := (tAsg (tLst (tMks PT q [(lsOf false X.env.cells (lamA 3 0)), (lsOf true X.env.cells (lamA 3 1))])) (gName 6))
def tm4 (P : Program) (w : World) (K : PySem.W.Frag) (mg : Str → Option Value) (base : Heap) (xa : Nat → Addr) (PT : Addr) (q : Str) (X : Cx) : TS := (tIfS (tTest (tOp (rNeD K) (fun σ H Q => tLc (iList K (tVar 6)) (gName 9) (tRt2 P w K mg base xa 8 X 9 (tVar 4) "history" σ) (tVar 9) [9] σ H Q) (tLst tNil))) (tRet (tC (.bl false))) tNext)
def tm6 (P : Program) (w : World) (K : PySem.W.Frag) (mg : Str → Option Value) (base : Heap) (xa : Nat → Addr) (PT : Addr) (q : Str) (X : Cx) : TS := (tAsg (tLst (tMks PT q [(lsOf false X.env.cells (lamA 6 0)), (lsOf true X.env.cells (lamA 6 1))])) (gName 6))
def tm7 (P : Program) (w : World) (K : PySem.W.Frag) (mg : Str → Option Value) (base : Heap) (xa : Nat → Addr) (PT : Addr) (q : Str) (X : Cx) : TS := (tIfS (tTest (tOp (rNeD K) (fun σ H Q => tLc (iList K (tVar 6)) (gName 9) (tRt2 P w K mg base xa 8 X 9 (tC (.int 12)) "history" σ) (tVar 9) [9] σ H Q) (tLst tNil))) (tRet (tC (.bl false))) tNext)
abbrev tBody (P : Program) (w : World) (K : PySem.W.Frag) (mg : Str → Option Value) (base : Heap) (xa : Nat → Addr) (PT : Addr) (q : Str) (X : Cx) (CA : Nat → Addr) : TS := (tSeq (tp0 P w K CA) (tSeq (tp1 P w K CA) (tSeq (tp2 P w K CA) (tSeq (tm3 P w K mg base xa PT q X) (tSeq (tm4 P w K mg base xa PT q X) (tSeq (tq2 P w K CA) (tSeq (tm6 P w K mg base xa PT q X) (tSeq (tm7 P w K mg base xa PT q X) (tq3 P w K CA)))))))))
theorem sim_a : SimS (Wv P w K CA) (tA P w K CA) bo_law_a := (zar (sim_box (zai (dfl := []) (zaa zab (zaa zad zac)) rfl rfl)))
theorem sim_1 : SimS (Wv P w K CA) ((tSeq (tp0 P w K CA) (tSeq (tp1 P w K CA) (tp2 P w K CA)))) bo_law_1 := (zaf (zar (zai (dfl := []) (zaa zab (zaa zad zac)) rfl rfl)) (zaf (zar (zai (dfl := []) (zaa zab (zaa (zag (zas (zaa zab zac) zbv) zad zaz) zac)) rfl rfl)) (zar (zag (zag (zag (sim_slice zab simP_none (simP_some zab)) (zaH (zaa (zai (dfl := []) (zaa zab (zaa zab (zaa zab zac))) rfl rfl) zac)) zaz) (sim_slice zab (simP_some zab) simP_none) zaz) (zag (zaH (zaa (zal zac) zac)) (zai (dfl := []) (zaa zab (zaa zad zac)) rfl rfl) sim_mul) zaz))))
theorem sim_2 : SimS (Wv P w K CA) (tq2 P w K CA) bo_law_2 := (zar (zaN (js := [8]) (vs := [8]) (simI_range (zag zad (zai (dfl := []) (zaa zab (zaa zad zac)) rfl rfl) zaz)) zaF (by decide) zbC (zal (zaa zad (zaa (zal (zaa zaq (zaa (zal (zaa zad zac)) zac))) (zaa (zag zad zab sim_mul) (zaa (zag (zag zad zab sim_mul) zad zaz) (zaa (zal (zaa zad zac)) zac))))))))
theorem sim_3 : SimS (Wv P w K CA) (tq3 P w K CA) bo_law_3 := (zau (zbk (zaZ (zav (zaM (t := .str) (zai (dfl := []) (zaa zab zac) rfl rfl)))) (zav (sim_isN (zai (dfl := []) (zaa (sim_slice zab simP_none (simP_some zad)) zac) rfl rfl)))) (zao za9) zap)
theorem law_pss (T : Fx K mg) (G__law_dice : Kn P w K mg base 1 "_law_dice" ["_law_script", "_law_k"] [] (spOf (Wv P w K CA) 2 zaT)) (G__law_history : Kn P w K mg base 5 "_law_history" ["_law_d", "_law_most"] [] (spOf (Wv P w K CA) 2 zaJ)) (G__law_off : Kn P w K mg base 1 "_law_off" ["_law_d", "_law_most"] [] (spOf (Wv P w K CA) 2 zae)) (G__law_bad_row : Kn P w K mg base 2 "_law_bad_row" ["_law_d", "_law_rows", "_law_at"] [] (spOf (Wv P w K CA) 3 zaO)) (G_written : Kn P w K mg base 8 "written" ["rows"] [] (spOf (Wv P w K CA) 1 zbR)) (G_judged : Kn P w K mg base 43 "judged" ["rows"] [] (spOf (Wv P w K CA) 1 ev_judged)) {g f c PT : Addr} (g_ref : mg "_law_refused" = some (.ref g)) (k_ref : PySem.W.keepIn K (.ref g) = true) (Rf : RefOk2 P w K mg base xa 8 g) (TB : TabB base mg c PT) {A : Around} {outer : List PySem.Env} {s : Shared} {H : Hp} {E : XK} (hr : Room 43 (A.deeper (envOfC "law" (defScope st_law) s.heap.objs.size f (.ref c)))) {X : Cx} (hX : X = XL P w K mg base f c A outer s H E) {q : Str} (hq : q = X.env.qual ++ "<lambda>") :
    PSs X (defBody st_law) (tSeq (tA P w K CA) (tSeq (tFor (iRng1 (tCons (tC (.int 6)) tNil)) (gName 2) (tBody P w K mg base xa PT q X CA)) (tRet (tC (.bl true))))) := by
  subst hq
  subst hX
  have sc := sc_law
  exact (pss_cons (ps_set (i := 1) sc.nd rfl (by first | exact .inl rfl | exact .inr rfl) (zaD G__law_dice (hr.mono (by omega)) (by rfl) (pa_cons (pv 0) (pa_cons pe_int pa_nil))))
    (pss_cons (ps_for PassesOwn.never rfl (pi_range1 (by rfl) T.b_range (pa_cons pe_int pa_nil)) (pg_name (i := 2) sc.nd rfl (by first | exact .inl rfl | exact .inr rfl)) (pss_cons (ps_set (i := 3) sc.nd rfl (by first | exact .inl rfl | exact .inr rfl) (zaD G__law_history (hr.mono (by omega)) (by rfl) (pa_cons (pv 1) (pa_cons pe_int pa_nil))))
    (pss_cons (ps_set (i := 4) sc.nd rfl (by first | exact .inl rfl | exact .inr rfl) (zaD G__law_off (hr.mono (by omega)) (by rfl) (pa_cons (pv 1) (pa_cons (pe_op zaA (pe_callB zaW (by rfl) T.b_len bb_len (pa_cons (pv 3) pa_nil)) pe_int) pa_nil))))
    (pss_cons (ps_set (i := 5) sc.nd rfl (by first | exact .inl rfl | exact .inr rfl) (pe_op zaA (pe_op zaA (pe_op zaA (pe_slice sl_any (pv 3) po_none (po_some (pv 4))) (pe_lst (pa_cons (zaD G__law_bad_row (hr.mono (by omega)) (by rfl) (pa_cons (pv 1) (pa_cons (pv 3) (pa_cons (pv 4) pa_nil)))) pa_nil))) (pe_slice sl_any (pv 3) (po_some (pv 4)) po_none)) (pe_op op_mulA (pe_lst (pa_cons (pe_tup pa_nil) pa_nil)) (zaD G__law_off (hr.mono (by omega)) (by rfl) (pa_cons (pv 1) (pa_cons pe_int pa_nil))))))
    (pss_cons (ps_set (i := 6) sc.nd rfl (by first | exact .inl rfl | exact .inr rfl) (pe_lst (pa_cons (pe_lm0 TB rfl (fun y hy z => .inl (capB_free cb1 y hy z))) (pa_cons (pe_lm1 TB rfl (fun y hy z => .inl (capB_free cb2 y hy z)) rfl rfl) pa_nil))))
    (pss_cons (ps_if (pt_cmpR (op_neD hr.units) (pe_lclS (tt := fun σ => tRt2 P w K mg base xa 8 (XL P w K mg base f c A outer s H E) 9 (tVar 4) "history" σ) (own := [("_law_work", 9)]) sc.nd (pv 6) (blkOk_by (by kernel_rfl)) (fun pins σ => ⟨mood_calm rfl, fun s3 H3 C cl it I3 fp => ⟨pg_name (i := 9) sc.nd rfl (by first | exact .inl rfl | exact .inr rfl), pts_one (pt_not (pt_val (pe_refd2 (xa := xa) (X0 := XL P w K mg base f c A outer s H E) (σof := (fun _ => σ)) (te := (tVar 9)) (tn := (tVar 4)) (by rfl) g_ref k_ref Rf (hr.mono (by omega)) (pv 9) (pv 4) (fun pins2 σ2 H2 s2 J => ⟨I3.ok, CapAt.blk I3 fp (fun _ => rfl) J, cells_nofr I3 (fun _ => rfl)⟩)))), (pv 9)⟩⟩)) (pe_lst pa_nil) (nomark _)) (pss_one (ps_ret pe_bl)) pss_nil)
    (pss_cons (ps_set (i := 7) sc.nd rfl (by first | exact .inl rfl | exact .inr rfl) (pe_lc (own := [("_law_k", 8)]) rfl sc.nd (pi_range1 (by rfl) T.b_range (pa_cons (pe_op zaA pe_int (zaD G__law_off (hr.mono (by omega)) (by rfl) (pa_cons (pv 1) (pa_cons pe_int pa_nil)))) pa_nil)) (blkOk_by (by kernel_rfl)) (fun _ _ _ _ _ => (pg_name (i := 8) sc.nd rfl (by first | exact .inl rfl | exact .inr rfl))) (fun _ _ _ _ _ => pts_nil) (fun _ _ _ _ _ => (pe_tup (pa_cons pe_int (pa_cons (pe_tup (pa_cons pe_str (pa_cons (pe_tup (pa_cons pe_int pa_nil)) pa_nil))) (pa_cons (pe_op op_mulA pe_int (pv 8)) (pa_cons (pe_op zaA (pe_op op_mulA pe_int (pv 8)) pe_int) (pa_cons (pe_tup (pa_cons pe_int pa_nil)) pa_nil)))))))))
    (pss_cons (ps_set (i := 6) sc.nd rfl (by first | exact .inl rfl | exact .inr rfl) (pe_lst (pa_cons (pe_lm0 TB rfl (fun y hy z => .inl (capB_free cb3 y hy z))) (pa_cons (pe_lm1 TB rfl (fun y hy z => .inl (capB_free cb4 y hy z)) rfl rfl) pa_nil))))
    (pss_cons (ps_if (pt_cmpR (op_neD hr.units) (pe_lclS (tt := fun σ => tRt2 P w K mg base xa 8 (XL P w K mg base f c A outer s H E) 9 (tC (.int 12)) "history" σ) (own := [("_law_work", 9)]) sc.nd (pv 6) (blkOk_by (by kernel_rfl)) (fun pins σ => ⟨mood_calm rfl, fun s3 H3 C cl it I3 fp => ⟨pg_name (i := 9) sc.nd rfl (by first | exact .inl rfl | exact .inr rfl), pts_one (pt_not (pt_val (pe_refd2 (xa := xa) (X0 := XL P w K mg base f c A outer s H E) (σof := (fun _ => σ)) (te := (tVar 9)) (tn := (tC (.int 12))) (by rfl) g_ref k_ref Rf (hr.mono (by omega)) (pv 9) pe_int (fun pins2 σ2 H2 s2 J => ⟨I3.ok, CapAt.blk I3 fp (fun _ => rfl) J, cells_nofr I3 (fun _ => rfl)⟩)))), (pv 9)⟩⟩)) (pe_lst pa_nil) (nomark _)) (pss_one (ps_ret pe_bl)) pss_nil)
    (pss_one (ps_if (PW.pt (pw_or (pt_not (pt_val (pe_callB call_isi (by rfl) T.b_isinstance zah (pa_cons (zaD G_written (hr.mono (by omega)) (by rfl) (pa_cons (pv 3) pa_nil)) (pa_cons (pe_bltn (by rfl) T.b_str bb_str rfl) pa_nil))))) (pw_or1 (pt_cmp (pc_isN (zaD G_judged (hr.mono (by omega)) (by rfl) (pa_cons (pe_slice sl_any (pv 7) po_none (po_some pe_int)) pa_nil))) rfl)))) (pss_one (ps_ret pe_bl)) pss_nil)))))))))))
    (pss_one (ps_ret pe_bl))))
end
end Ev
set_option maxHeartbeats 4000000
namespace Ev
open PySem PySem.Spec PyProof.Rows L2 LamX NdefX
def Two (ga gb : Env → Store → Option (Nat × Option Int × Store)) (xs : List Ev.D) (i : Int) (S S' : Store) : Prop := ∃ S1, ga [.b xs] S = some (5, some i, S1) ∧ gb [.v (.int 0), .b xs] S1 = some (5, some i, S')
def Rounds : Nat → Env → Store → Prop
  | 0, _, _ => True
  | n + 1, ρ, S => ∀ t : Int, ∃ (ρ1 : Env) (S1 : Store) (xs : List Ev.D) (i : Int) (S2 : Store) (ρ3 : Env) (S3 : Store) (ys : List Ev.D) (S4 : Store) (ρ5 : Env) (S5 : Store), bo_law_1 (ρ.set 2 (.v (.int t))) S = some (.next ρ1 S1) ∧
    (ρ1.length = 10 ∧ (ρ1.map lendS)[5]? = some (.b xs) ∧ (ρ1.map lendS)[4]? = some (.v (.int i)) ∧ (ρ1.map lendS)[6]? = some .no ∧ (ρ1.map lendS)[9]? = some .no) ∧ Two gy1 gy2 xs i S1 S2 ∧
    bo_law_2 (ρ1.map lendS) S2 = some (.next ρ3 S3) ∧ (ρ3.length = 10 ∧ (ρ3.map lendS)[7]? = some (.b ys) ∧ (ρ3.map lendS)[6]? = some .no ∧ (ρ3.map lendS)[9]? = some .no) ∧ Two gy3 gy4 ys 12 S3 S4 ∧
    bo_law_3 (ρ3.map lendS) S4 = some (.next ρ5 S5) ∧ ρ5.length = 10 ∧ Rounds n (ρ5.map lendS) S5
def LawRuns : Prop := ∀ ns : List Int, ns.length ≤ 63 → ∀ scr : Sl, scr = .f (ns.map D.int) ∨ scr = .b (ns.map D.int) → ∃ ρ S, bo_law_a (scr :: List.replicate 9 .no) [] = some (.next ρ S) ∧ ρ.length = 10 ∧ Rounds 6 (ρ.map lendS) S
def spL (W : Wd) (PT : Addr) : Sp := fun vs H Q _ => vs.length = 1 ∧ (∃ (a : Addr) (ns : List Int), vs = [.ref a] ∧ ns.length ≤ 63 ∧ H PT = some (.tbl #[]) ∧ SqL W.K H a (ns.map V.int)) ∧ ∀ H', Q (.bl true) H'
theorem seq_i {t u : TS} {D : Ends} {σ : L2.St} {H : Hp} (h : t { D with nx := u D } σ H) : tSeq t u D σ H := h
section
variable {W : Wd} {ι ι1 : Nat → Addr} {H H1 : Hp} {S S1 : Store} {ρ ρ1 : Env} {σ σ1 : L2.St} {PT : Addr} {q : Str}
theorem MidT.put (M : MidT W PT q ι ρ S σ H) {j : Nat} {i : Int} : MidT W PT q ι (ρ.set j (.v (.int i))) S (σ.set j (some (.int i))) H := by
  refine ⟨.mk' M.m.Z (by rw [List.length_set, List.length_set]; exact M.m.N.len) (fun k s e => ?_) (fun k s o e1 e2 => ?_), M.tab, M.cod⟩
  · rcases zaB e with ⟨_, z⟩ | ⟨_, e⟩
    · rw [z]; rfl
    · exact M.m.own k s e
  · rcases zaB e1 with ⟨hk, z⟩ | ⟨hk, e1⟩
    · subst z
      subst hk
      rcases zaB e2 with ⟨_, z⟩ | ⟨hk, _⟩
      · subst z; exact ⟨_, rfl, .int i⟩
      · exact absurd rfl hk
    · rcases zaB e2 with ⟨hk2, _⟩ | ⟨_, e2⟩
      · exact absurd hk2 hk
      · exact M.m.N.at_ k s o e1 e2
theorem MidT.of (M : MidT W PT q ι ρ S σ H) (A : At W ⟨ι, S, H, ι, 0, fun _ => none⟩ ι1 ρ1 S1 σ1 H1) : MidT W PT q ι1 (ρ1.map lendS) S1 σ1 H1 := by
  have X : Ext ι S.length H ι1 S1.length H1 := A.X
  have M' := M.ext X A.Z
  exact ⟨Mid.of A, M'.tab, M'.cod⟩
theorem MidT.int (M : MidT W PT q ι ρ S σ H) {j : Nat} {i : Int} (h : ρ[j]? = some (.v (.int i))) : σ[j]? = some (some (.int i)) := by
  have hj : j < σ.length := by
    have z := (List.getElem?_eq_some_iff.mp h).1
    rw [M.m.N.len] at z
    exact z
  obtain ⟨v, ev, rv⟩ := M.m.N.at_ j _ σ[j] h (by simp [hj])
  cases rv
  simp [hj, ev]
end
section
variable {P : Program} {w : World} {K : PySem.W.Frag} {mg : Str → Option Value} {base : Heap} {CA xa : Nat → Addr} {le : Addr}
theorem seq_as {a b c : TS} : tSeq (tSeq a b) c = tSeq a (tSeq b c) := rfl
theorem body_eq {PT : Addr} {q : Str} {X : Cx} : tBody P w K mg base xa PT q X CA = tSeq (tSeq (tp0 P w K CA) (tSeq (tp1 P w K CA) (tp2 P w K CA))) (tSeq (tm3 P w K mg base xa PT q X) (tSeq (tm4 P w K mg base xa PT q X) (tSeq (tq2 P w K CA) (tSeq (tm6 P w K mg base xa PT q X) (tSeq (tm7 P w K mg base xa PT q X) (tq3 P w K CA)))))) := by
  unfold tBody
  simp only [seq_as]
theorem body_sem (T : Fx K mg) (GX_judged : KnX P w K mg base 8 "judged" ["rows"] (spY (Wv P w K CA) xa 1 za1)) (GX_written : KnX P w K mg base 8 "written" ["rows"] (spY (Wv P w K CA) xa 1 zaP))
    {f c PT : Addr} {A : Around} {outer : List PySem.Env} {s : Shared} {H0 : Hp} {E : XK} {X : Cx} (hX : X = XL P w K mg base f c A outer s H0 E) {q : Str} {ι : Nat → Addr} {ρ : Env} {S : Store} {σ : L2.St} {H : Hp} {n : Nat} (M : MidT (Wv P w K CA) PT q ι ρ S σ H) (hl : σ.length = 10) (R : Rounds (n + 1) ρ S) {t : Int} {D : Ends}
    (go : ∀ (ρ' : Env) (S' : Store) (σ' : L2.St) (H' : Hp) (ι' : Nat → Addr), Rounds n ρ' S' → MidT (Wv P w K CA) PT q ι' ρ' S' σ' H' → σ'.length = 10 → D.nx σ' H') : tBody P w K mg base xa PT q X CA D (σ.set 2 (some (.int t))) H := by
  obtain ⟨ρ1, S1, xs, i, S2, ρ3, S3, ys, S4, ρ5, S5, e1, ⟨n1, w5, w4, w6, w9⟩, ⟨Sa, ta, tb⟩, e2, ⟨n3, v7, v6, v9⟩, ⟨Sb, tc, td⟩, e3, n5, R'⟩ := R t
  have cps : ∀ {nsc : Scope} {fr : List Str} {js : List Nat}, capB nsc fr = true → js.map (fun j => (["_law_script", "_law_d", "_law_turn", "_law_rows", "_law_at", "_law_bad", "_law_works", "_law_long", "_law_k", "_law_work"] : List Str)[j]?) = fr.map some → Caps X (cloFrom X.env.cells nsc.names []) fr js := fun h h' => by
    rw [hX]
    exact caps_law h h'
  have M0 := M.put (j := 2) (i := t)
  have l0 : (σ.set 2 (some (V.int t))).length = 10 := by rw [List.length_set]; exact hl
  have lenR : ∀ {ι : Nat → Addr} {ρ : Env} {S : Store} {σ : L2.St} {H : Hp}, MidT (Wv P w K CA) PT q ι ρ S σ H → ρ.length = σ.length := fun M => M.m.N.len
  have at6 : ∀ {σ : L2.St} {v : V}, σ.length = 10 → (σ.set 6 (some v))[6]? = some (some v) := fun h => List.getElem?_set_self (by omega)
  rw [body_eq]
  refine seq_i (sim_1 _ _ H ι _ S _ M0.m.at e1 _ fun σ1 H1 ι1 A1 => ?_)
  have M1 := M0.of A1
  have l1 : σ1.length = 10 := by rw [← A1.N.len]; exact n1
  refine seq_i ?_
  unfold tm3
  refine asg_sem M1 (by simp) w6 fun p2 fs2 H2 M2 st2 kp2 _ => ?_
  refine seq_i ?_
  unfold tm4
  refine comp_if2 (wi := 9) (tn := tVar 4) (num := i) (word := "history") (xa := xa) (k := 8) (X0 := X) (tl := tVar 6) (ls := [lsOf false X.env.cells (lamA 3 0), lsOf true X.env.cells (lamA 3 1)]) M2 (fun R k => ⟨.ref p2, at6 l1, k p2 fs2 H2 M2 .refl st2 kp2⟩) (.cons (rz1 T GX_judged (cps cb1 rfl) (ss := [.b xs]) (by simp only [List.map_cons, List.map_nil, w5]) (by simp) rfl ta) (.cons (rz2 T GX_written (cps cb2 rfl) (ss := [.b xs]) (by simp only [List.map_cons, List.map_nil, w5]) (by simp) rfl tb) .nil)) (by rw [List.length_set, l1]; decide) (fun σ2 H R h r => ⟨.int i, by rw [h 4 (by decide)]; exact M2.int w4, r⟩) fun H3 ι3 M3 _ => ?_
  refine seq_i (sim_2 _ _ H3 ι3 _ S2 _ M3.m.at e2 _ fun σ4 H4 ι4 A4 => ?_)
  have M4 := M3.of A4
  have l4 : σ4.length = 10 := by rw [← A4.N.len]; exact n3
  refine seq_i ?_
  unfold tm6
  refine asg_sem M4 (by simp) v6 fun p5 fs5 H5 M5 st5 kp5 _ => ?_
  refine seq_i ?_
  unfold tm7
  refine comp_if2 (wi := 9) (tn := tC (.int 12)) (num := 12) (word := "history") (xa := xa) (k := 8) (X0 := X) (tl := tVar 6) (ls := [lsOf false X.env.cells (lamA 6 0), lsOf true X.env.cells (lamA 6 1)]) M5 (fun R k => ⟨.ref p5, at6 l4, k p5 fs5 H5 M5 .refl st5 kp5⟩) (.cons (rz3 T GX_judged (cps cb3 rfl) (ss := [.b ys]) (by simp only [List.map_cons, List.map_nil, v7]) (by simp) rfl tc) (.cons (rz4 T GX_written (cps cb4 rfl) (ss := [.b ys]) (by simp only [List.map_cons, List.map_nil, v7]) (by simp) rfl td) .nil)) (by rw [List.length_set, l4]; decide) (fun σ2 H R h r => r) fun H6 ι6 M6 _ => ?_
  refine sim_3 _ _ H6 ι6 _ S4 _ M6.m.at e3 _ fun σ7 H7 ι7 A7 => ?_
  have M7 := M6.of A7
  exact go _ S5 σ7 H7 ι7 R' M7 (by rw [← A7.N.len]; exact n5)
end
end Ev
set_option maxHeartbeats 0
namespace Ev
open PySem PySem.Spec PyProof.Rows L2 LamX NdefX
section
variable {P : Program} {w : World} {K : PySem.W.Frag} {mg : Str → Option Value} {base : Heap} {CA xa : Nat → Addr} {le : Addr}
theorem law_sem (T : Fx K mg) (GX_judged : KnX P w K mg base 8 "judged" ["rows"] (spY (Wv P w K CA) xa 1 za1)) (GX_written : KnX P w K mg base 8 "written" ["rows"] (spY (Wv P w K CA) xa 1 zaP)) {f c PT : Addr} {A : Around} {outer : List PySem.Env} {s : Shared} {H0 : Hp} {E : XK} {X : Cx} (hX : X = XL P w K mg base f c A outer s H0 E) {q : Str} (runs : LawRuns) {H : Hp} {a : Addr} {ns : List Int} (hn : ns.length ≤ 63) (hP : H PT = some (.tbl #[])) (hS : SqL K H a (ns.map V.int)) {D : Ends} (hQ : ∀ H', D.rt (.bl true) H') :
    (tSeq (tA P w K CA) (tSeq (tFor (iRng1 (tCons (tC (.int 6)) tNil)) (gName 2) (tBody P w K mg base xa PT q X CA)) (tRet (tC (.bl true))))) D (some (.ref a) :: List.replicate 9 none) H := by
  let W : Wd := Wv P w K CA
  let ι : Nat → Addr := fun _ => 0
  have Z0 : RSt W ι H [] := ⟨fun h o e => by simp at e, fun i j hi => absurd hi (Nat.not_lt_zero _)⟩
  have rp : Reps ι 0 H (ns.map Ev.D.int) (ns.map V.int) := reps_nums ns
  have slot : ∃ scr : Sl, (scr = .f (ns.map Ev.D.int) ∨ scr = .b (ns.map Ev.D.int)) ∧ SlOk W H ι 0 H (some (.ref a)) scr ∧ scr.own = false := by
    rcases hS with (hS | ⟨o, hS⟩) | hS
    · exact ⟨_, .inr rfl, ⟨a, _, rfl, hS, rp, fun h hh => absurd hh (Nat.not_lt_zero _)⟩, rfl⟩
    · exact ⟨_, .inl rfl, ⟨a, _, rfl, .inl ⟨o, hS, fun h hh => absurd hh (Nat.not_lt_zero _)⟩, rp⟩, rfl⟩
    · exact ⟨_, .inl rfl, ⟨a, _, rfl, .inr hS, rp⟩, rfl⟩
  obtain ⟨scr, hscr, hok, hown⟩ := slot
  obtain ⟨ρ, S, run, hlen, R⟩ := runs ns hn scr hscr
  have N0 : REnv W H ι 0 H (scr :: List.replicate 9 .no) (some (.ref a) :: List.replicate 9 none) := entry_env (m := 10) (ss := [scr]) (vs := [.ref a]) (.cons ⟨hok, hown⟩ .nil)
  have A0 : At W ⟨ι, [], H, ι, 0, fun _ => none⟩ ι (scr :: List.replicate 9 .no) [] (some (.ref a) :: List.replicate 9 none) H := ⟨Z0, .refl, N0, Nat.zero_le _, fun h hh => absurd hh (Nat.not_lt_zero _), (fun a o q => by cases q), (fun a o i s q => by cases q)⟩
  refine seq_i (sim_a ⟨ι, [], H, ι, 0, fun _ => none⟩ _ H ι _ [] _ A0 run _ fun σ1 H1 ι1 A1 => ?_)
  have hP1 : H1 PT = some (.tbl #[]) := A1.X.keep PT _ hP fun h hh => absurd hh (Nat.not_lt_zero _)
  have M : MidT W PT q ι1 (ρ.map lendS) S σ1 H1 := ⟨Mid.of A1, TabS.nil hP1, fun ps z pos c y => by
    rw [hP1] at z
    cases z
    have y' : codeAmong pos [] = some (.ref c) := y
    simp [codeAmong] at y'⟩
  have l1 : σ1.length = 10 := by rw [← A1.N.len]; exact hlen
  refine seq_i ⟨6, rfl, by decide, by decide, ?_⟩
  refine ⟨fun i m σ H => i + m = 6 ∧ σ.length = 10 ∧ ∃ ι ρ S, Rounds m ρ S ∧ MidT W PT q ι ρ S σ H, ⟨6, rfl, l1, ι1, _, S, R, M⟩, ?_⟩
  rintro i m σ2 H2 ⟨him, l2, ι2, ρ2, S2, R2, M2⟩
  cases m with
  | zero =>
    refine .inl ⟨?_, hQ H2⟩
    show (6 : Int).toNat ≤ i
    have : (6 : Int).toNat = 6 := rfl
    omega
  | succ m =>
    refine .inr ⟨?_, fun σ H => (i + 1) + m = 6 ∧ σ.length = 10 ∧ ∃ ι ρ S, Rounds m ρ S ∧ MidT W PT q ι ρ S σ H, fun σ' H' h => ⟨m, Nat.lt_succ_self _, h⟩, ?_⟩
    · show i < (6 : Int).toNat
      have : (6 : Int).toNat = 6 := rfl
      omega
    · rintro x H' ⟨rfl, rfl⟩
      exact body_sem T GX_judged GX_written hX M2 l2 R2 fun ρ' S' σ' H' ι' r M' l' => ⟨by omega, l', ι', ρ', S', r, M'⟩
theorem law_ok (T : Fx K mg) (G__law_dice : Kn P w K mg base 1 "_law_dice" ["_law_script", "_law_k"] [] (spOf (Wv P w K CA) 2 zaT)) (G__law_history : Kn P w K mg base 5 "_law_history" ["_law_d", "_law_most"] [] (spOf (Wv P w K CA) 2 zaJ)) (G__law_off : Kn P w K mg base 1 "_law_off" ["_law_d", "_law_most"] [] (spOf (Wv P w K CA) 2 zae)) (G__law_bad_row : Kn P w K mg base 2 "_law_bad_row" ["_law_d", "_law_rows", "_law_at"] [] (spOf (Wv P w K CA) 3 zaO)) (G_written : Kn P w K mg base 8 "written" ["rows"] [] (spOf (Wv P w K CA) 1 zbR)) (G_judged : Kn P w K mg base 43 "judged" ["rows"] [] (spOf (Wv P w K CA) 1 ev_judged)) (GX_judged : KnX P w K mg base 8 "judged" ["rows"] (spY (Wv P w K CA) xa 1 za1)) (GX_written : KnX P w K mg base 8 "written" ["rows"] (spY (Wv P w K CA) xa 1 zaP)) {g f c PT : Addr} {fd : FuncData} (g_ref : mg "_law_refused" = some (.ref g)) (k_ref : PySem.W.keepIn K (.ref g) = true) (Rf : RefOk2 P w K mg base xa 8 g) (TB : TabB base mg c PT) (F : FnP K "law" "law" st_law [] f fd)
    (hcode : ∀ oc od dV kV doc pm an cdv ct osl, K.lookup f = some ⟨oc, od, .func (PySem.W.fnOf "law" "law" (defArgs st_law) (defBody st_law) (defScope st_law) dV kV doc pm an cdv ct), osl⟩ → cdv = .ref c) (runs : LawRuns) : FnOk P w K mg base CX0 44 f fd ["_law_script"] (spL (Wv P w K CA) PT) := by
  obtain ⟨oc, od, dV, kV, doc, pm, an, cdv, ct, osl, rfl, lk, hcd, _, _⟩ := F.ex
  obtain rfl := hcode _ _ _ _ _ _ _ _ _ _ lk
  refine fn_of lk hcd sc_law (fun vs H Q E h => h.1) fun A outer s H vs Q E hr h => ?_
  obtain ⟨_, ⟨a, ns, rfl, hn, hP, hS⟩, hQ⟩ := h
  have ps := law_pss (CA := CA) (PT := PT) T G__law_dice G__law_history G__law_off G__law_bad_row G_written G_judged g_ref k_ref Rf TB (outer := outer) (H := H) (E := E) hr rfl rfl
  exact ⟨_, ps.nox, law_sem T GX_judged GX_written rfl runs hn hP hS hQ⟩
end
end Ev
set_option maxHeartbeats 4000000
namespace Ev
open PySem L2
def Dc (xs : List D) : Prop := ∃ (a b : Int) (r : List Int), xs = .int a :: .int b :: r.map D.int ∧ 0 ≤ a ∧ 0 ≤ b ∧ ∀ x ∈ r, 0 < x
theorem zbh {xs : List D} (T : Store) (m : Int) (hd : Dc xs) (hm : 0 < m) (hm2 : m < 1073741824) :
    ∃ r xs', zae [.v (.ob 0), .v (.int m)] (.lst xs :: T) = some (.v (.int r), .lst xs' :: T) ∧ 0 ≤ r ∧ r < m ∧ Dc xs' := by
  obtain ⟨a, b, r, rfl, ha, hb, hr⟩ := hd
  unfold zae bo__law_off
  rw [zay (ss := [.v (.ob 0), .v (.int m)]) (by simp) (by simp)]
  have pos : ∀ (b : Int) (r : List Int), 0 < b → (∀ x ∈ r, 0 < x) → 0 ≤ b % m ∧ b % m < m ∧ Dc (.int a :: .int (b / m) :: r.map D.int) := fun b r hb hr =>
    ⟨Int.emod_nonneg _ (by omega), Int.emod_lt_of_pos _ hm, a, b / m, r, rfl, ha, Int.ediv_nonneg (by omega) (by omega), hr⟩
  by_cases h0 : b = 0
  · subst h0
    cases r with
    | nil =>
      refine ⟨(a * 48271 + 11) % 2147483647 / 64 % m, .int ((a * 48271 + 11) % 2147483647) :: .int 0 :: [], ?_, Int.emod_nonneg _ (by omega), Int.emod_lt_of_pos _ hm, (a * 48271 + 11) % 2147483647, 0, [], rfl, Int.emod_nonneg _ (by decide), by decide, by simp⟩
      simp [gModI, gFdivI, gMulI, hm, hm2, small64]
    | cons c r =>
      have hc : 0 < c := hr c (by simp)
      obtain ⟨p1, p2, p3⟩ := pos c r hc fun x hx => hr x (by simp [hx])
      have hl : (2 : Int) < ↑r.length + 1 + 1 + 1 := by omega
      refine ⟨c % m, _, ?_, p1, p2, p3⟩
      simp [gModI, gFdivI, gMulI, hm, hm2, small64, hc, hl]
  · have hb' : 0 < b := by omega
    obtain ⟨p1, p2, p3⟩ := pos b r hb' hr
    refine ⟨b % m, _, ?_, p1, p2, p3⟩
    simp [gModI, gFdivI, gMulI, hm, hm2, small64, hb', h0]
theorem some3 {S : Store} : zaS [.v (.int 3)] S = some (.l [.int 0, .int 4, .int 9], S) := by
  unfold zaS bo__law_some
  simp [runOf, eDispGet, eListRg, smallN, cap, R.isVL]
  exact ⟨rfl, rfl⟩
theorem getElem_erase_perm : ∀ {l : List D} {k : Nat} (h : k < l.length), ([l[k]] ++ l.eraseIdx k).Perm l
  | [], k, h => absurd h (by simp)
  | a :: l, 0, h => by simp
  | a :: l, k + 1, h => by
    have hk : k < l.length := by simpa using h
    have ih := getElem_erase_perm (l := l) (k := k) hk
    rw [List.eraseIdx_cons_succ]
    show List.Perm (l[k] :: a :: l.eraseIdx k) (a :: l)
    exact (List.Perm.swap a _ _).trans (ih.cons a)
theorem mixed_loop {T : Store} {row : List D} : ∀ (n m : Nat) (left found xs : List D), left.length = n → n < m → found.length + n ≤ 16000000 → okNs 60 left = true → Dc xs →
    ∃ ys xs', whileF (eBin gNe (eVar 2) (eLst [])) bd__law_mixed_1 m [.v (.ob 0), .b row, .l left, .l found] (.lst xs :: T) = some (.next [.v (.ob 0), .b row, .l [], .l ys] (.lst xs' :: T)) ∧ ys.Perm (found ++ left) ∧ Dc xs' := by
  intro n
  induction n with
  | zero =>
    intro m left found xs hl hm hf ho hd
    have e : left = [] := List.length_eq_zero_iff.mp hl
    subst e
    cases m with
    | zero => omega
    | succ m =>
      refine ⟨found, xs, ?_, by simp, hd⟩
      rw [whileF_s]
      simp [gNe_bl (xs := []) (ys := []) (by simp [okNs]) (by simp [okNs]), cap]
  | succ n ih =>
    intro m left found xs hl hm hf ho hd
    cases m with
    | zero => omega
    | succ m =>
      obtain ⟨r, xs1, e1, h1, h2, hd1⟩ := zbh T (left.length : Int) hd (by omega) (by omega)
      have hr : r = ((r.toNat : Nat) : Int) := by omega
      have hlt : r.toNat < left.length := by omega
      have hx : left[r.toNat]? = some left[r.toNat] := by simp [hlt]
      have hne : left ≠ [] := fun z => by rw [z] at hl; simp at hl
      have ok1 : ∀ (l : List D) (k : Nat), okNs 60 l = true → okNs 60 (l.eraseIdx k) = true := by
        intro l
        induction l with
        | nil => intro k h; simpa using h
        | cons a l ih =>
          intro k h
          rw [okNs, Bool.and_eq_true] at h
          cases k with
          | zero => exact h.2
          | succ k =>
            rw [List.eraseIdx_cons_succ, okNs, Bool.and_eq_true]
            exact ⟨h.1, ih k h.2⟩
      obtain ⟨ys, xs', e2, hp, hd2⟩ := ih m (left.eraseIdx r.toNat) (found ++ [left[r.toNat]]) xs1 (by rw [List.length_eraseIdx, if_pos hlt]; omega) (by omega) (by simp; omega) (ok1 _ _ ho) hd1
      refine ⟨ys, xs', ?_, ?_, hd2⟩
      · rw [whileF_s]
        have ne : eqDs left [] = false := by
          rw [eqDs_nil_r]
          cases left with
          | nil => exact absurd rfl hne
          | cons a l => rfl
        have ix : ixN left.length r = some r.toNat := by
          have q := ixN_nat (n := left.length) (m := r.toNat)
          rw [← hr, if_pos hlt] at q
          exact q
        have hcap : found.length < cap := by show found.length < 16777216; omega
        simp only [eBin_, eVar_, eLst_, eArgs_n, List.getElem?_cons_succ, List.getElem?_cons_zero, rdSl_l, Option.map_some, zaG, flats_n, Option.bind_some, List.length_nil, Nat.zero_le, if_true, gNe_bl ho (show okNs 60 [] = true by simp [okNs]), ne, R.bool_bl, iteB_s, Bool.not_false]
        have body : bd__law_mixed_1 [.v (.ob 0), .b row, .l left, .l found] (.lst xs :: T) = some (.next [.v (.ob 0), .b row, .l (left.eraseIdx r.toNat), .l (found ++ [left[r.toNat]])] (.lst xs1 :: T)) := by
          unfold bd__law_mixed_1 sAppPop
          simp [e1, hcap, ix, hx]
          omega
        rw [body]
        exact e2
      · refine hp.trans ?_
        rw [List.append_assoc]
        refine List.Perm.append_left found ?_
        exact getElem_erase_perm hlt
theorem mixed_ok {xs : List D} (T : Store) {row : List D} (ho : okNs 60 row = true) (hl : row.length < 1000) (hd : Dc xs) :
    ∃ ys xs', zaY [.v (.ob 0), .l row] (.lst xs :: T) = some (.l ys, .lst xs' :: T) ∧ ys.Perm row ∧ Dc xs' := by
  obtain ⟨ys, xs', e, hp, hd'⟩ := mixed_loop (T := T) (row := row) row.length 100000 row [] xs rfl (by omega) (by simp; omega) ho hd
  refine ⟨ys, xs', ?_, by simpa using hp, hd'⟩
  unfold zaY bo__law_mixed
  rw [zay (ss := [.v (.ob 0), .b row]) (by simp) (by simp)]
  simp [cap, e]
inductive Deed where
  | look (fs : List Nat)
  | put (ps : List (Nat × Int))
  | add (f : Nat) (w : Int)
  | move (a b : Nat) (m : Int)
def fD (f : Nat) : D := .int (f : Nat)
def pD (p : Nat × Int) : D := .tup [.int (p.1 : Nat), .int p.2]
def Deed.d : Deed → D
  | .look fs => .tup [.str "look", .tup (fs.map fD)]
  | .put ps => .tup [.str "put", .tup (ps.map pD)]
  | .add f w => .tup [.str "add", .int (f : Nat), .int w]
  | .move a b m => .tup [.str "move", .int (a : Nat), .int (b : Nat), .int m]
def Ris (fs : List Nat) : Prop := fs.Pairwise (· < ·) ∧ 0 < fs.length ∧ fs.length ≤ 4 ∧ ∀ f ∈ fs, f < 10
def Wo (w : Int) : Prop := 0 ≤ w ∧ w < 1000
def Deed.Ok : Deed → Prop
  | .look fs => Ris fs
  | .put ps => Ris (ps.map (·.1)) ∧ ∀ p ∈ ps, Wo p.2
  | .add f w => f < 10 ∧ Wo w
  | .move a b m => a < 10 ∧ b < 10 ∧ a ≠ b ∧ Wo m
def in3 (f : Nat) : Prop := f = 0 ∨ f = 4 ∨ f = 9
def Deed.F3 : Deed → Prop
  | .look _ => True
  | .put ps => ∀ p ∈ ps, in3 p.1
  | .add f _ => in3 f
  | .move a b _ => in3 a ∧ in3 b
theorem rise_of {fs : List Int} (hs : fs.Pairwise (· ≤ ·)) (hn : fs.Nodup) : fs.Pairwise (· < ·) := by
  induction fs with
  | nil => exact .nil
  | cons a l ih =>
    rw [List.pairwise_cons] at hs ⊢
    rw [List.nodup_cons] at hn
    refine ⟨fun x hx => ?_, ih hs.2 hn.2⟩
    have h1 := hs.1 x hx
    have h2 : a ≠ x := fun z => hn.1 (z ▸ hx)
    omega
theorem toNat_map : ∀ {l : List Int}, (∀ x ∈ l, 0 ≤ x) → (l.map Int.toNat).map fD = l.map D.int
  | [], _ => rfl
  | a :: l, h => by
    have ha := h a (by simp)
    have ih := toNat_map (l := l) fun x hx => h x (by simp [hx])
    rw [List.map_cons, List.map_cons, List.map_cons, ih]
    congr 1
    show D.int ((a.toNat : Nat) : Int) = D.int a
    congr 1
    omega
theorem files_ok {xs : List D} (T : Store) (hd : Dc xs) :
    ∃ fs xs', za4 [.v (.ob 0), .v (.int 3)] (.lst xs :: T) = some (.v (.tup (fs.map fD)), .lst xs' :: T) ∧ Ris fs ∧ (∀ f ∈ fs, in3 f) ∧ Dc xs' := by
  obtain ⟨ys, x1, e1, hp, hd1⟩ := mixed_ok T (row := [.int 0, .int 4, .int 9]) (by simp [okNs, okN]) (by simp) hd
  obtain ⟨r, x2, e2, h1, h2, hd2⟩ := zbh T 3 hd1 (by decide) (by decide)
  obtain ⟨ns, rfl, hns⟩ : ∃ ns : List Int, ys = ns.map D.int ∧ ns.Perm [0, 4, 9] := by
    have hp' : ys.Perm (([0, 4, 9] : List Int).map D.int) := hp
    have key : ∀ (l : List Int) (ys : List D), ys.Perm (l.map D.int) → ∃ ns : List Int, ys = ns.map D.int ∧ ns.Perm l := by
      intro l ys h
      have all : ∀ y ∈ ys, ∃ n : Int, y = .int n := fun y hy => by
        obtain ⟨n, _, e⟩ := List.mem_map.mp (h.mem_iff.mp hy)
        exact ⟨n, e.symm⟩
      have : ∃ ns : List Int, ys = ns.map D.int := by
        clear h
        induction ys with
        | nil => exact ⟨[], rfl⟩
        | cons y ys ih =>
          obtain ⟨n, rfl⟩ := all y (by simp)
          obtain ⟨ns, e⟩ := ih fun z hz => all z (by simp [hz])
          exact ⟨n :: ns, by rw [e]; rfl⟩
      obtain ⟨ns, rfl⟩ := this
      refine ⟨ns, rfl, ?_⟩
      have q := h.map (fun d => match d with | D.int i => i | _ => 0)
      simpa [List.map_map, Function.comp_def] using q
    exact key _ _ hp'
  have hsub : List.Sublist (ns.take (1 + r).toNat) ns := List.take_sublist _ _
  have hnd : ns.Nodup := hns.nodup_iff.mpr (by decide)
  have hmem : ∀ x ∈ ns, x = 0 ∨ x = 4 ∨ x = 9 := fun x hx => by simpa using hns.mem_iff.mp hx
  have hlen : ns.length = 3 := hns.length_eq
  have hso : ∀ x ∈ sortI (ns.take (1 + r).toNat), x = 0 ∨ x = 4 ∨ x = 9 := fun x hx => hmem x (hsub.mem ((zbQ _).mem_iff.mp hx))
  refine ⟨(sortI (ns.take (1 + r).toNat)).map Int.toNat, x2, ?_, ⟨?_, ?_, ?_, ?_⟩, ?_, hd2⟩
  · unfold za4 bo__law_files
    rw [zay (ss := [.v (.ob 0), .v (.int 3)]) (by simp) (by simp)]
    rw [toNat_map fun x hx => by rcases hso x hx with h | h | h <;> omega]
    have h1r : (0 : Int) ≤ 1 + r := by omega
    have m43 : min (4 : Int) 3 = 3 := rfl
    simp [some3, e1, m43, e2, cut_takeI h1r, ← List.map_take]
  · have hs := rise_of (sortI_sorted (ns.take (1 + r).toNat)) ((zbQ _).nodup_iff.mpr (hsub.nodup hnd))
    rw [List.pairwise_map]
    refine hs.imp_of_mem fun {a b} ha hb hab => ?_
    have := hso a ha
    have := hso b hb
    omega
  · rw [List.length_map, (zbQ _).length_eq, List.length_take]
    omega
  · rw [List.length_map, (zbQ _).length_eq, List.length_take]
    omega
  · intro f hf
    obtain ⟨x, hx, rfl⟩ := List.mem_map.mp hf
    have := hso x hx
    omega
  · intro f hf
    obtain ⟨x, hx, rfl⟩ := List.mem_map.mp hf
    rcases hso x hx with rfl | rfl | rfl
    · exact .inl rfl
    · exact .inr (.inl rfl)
    · exact .inr (.inr rfl)
theorem putComp (T : Store) {k w : Int} (hw : Wo w) : ∀ (fs : List Nat) (xs : List D), Dc xs →
    ∃ ps : List (Nat × Int), ∃ xs', compF (tgName 4) eTrue (eTup [eVar 4, eBin gAdd (eCall zae [] [eVar 0, eLit (.int 5)]) (eBin gMod (eVar 3) (eLit (.int 996)))]) .no [.v (.ob 0), .v (.int 3), .v (.int k), .v (.int w), .no, .no] (fs.map fD) (.lst xs :: T) = some (ps.map pD, .lst xs' :: T) ∧
      ps.map (·.1) = fs ∧ (∀ p ∈ ps, Wo p.2) ∧ Dc xs'
  | [], xs, hd => ⟨[], xs, rfl, rfl, by simp, hd⟩
  | f :: fs, xs, hd => by
    obtain ⟨r, x1, e1, h1, h2, hd1⟩ := zbh T 5 hd (by decide) (by decide)
    obtain ⟨ps, x2, e2, g1, g2, hd2⟩ := putComp T (k := k) hw fs x1 hd1
    have hm : 0 ≤ w % 996 ∧ w % 996 < 996 := ⟨Int.emod_nonneg _ (by decide), Int.emod_lt_of_pos _ (by decide)⟩
    refine ⟨(f, r + w % 996) :: ps, x2, ?_, by simp [g1], ?_, hd2⟩
    · rw [List.map_cons, compF_c]
      have hm0 : gMod (.lst x1 :: T) (.v (.int w)) (.v (.int 996)) = some (.v (.int (w % 996))) := gModI (by decide)
      simp [fD, e1, hm0, e2, cap, pD]
    · intro p hp
      rcases List.mem_cons.mp hp with rfl | hp
      · exact ⟨by show 0 ≤ r + w % 996; omega, by show r + w % 996 < 1000; omega⟩
      · exact g2 p hp
theorem deed_ok {xs : List D} (T : Store) (hd : Dc xs) :
    ∃ dd xs', zbA [.v (.ob 0), .v (.int 3)] (.lst xs :: T) = some (.v (Deed.d dd), .lst xs' :: T) ∧ dd.Ok ∧ dd.F3 ∧ Dc xs' := by
  obtain ⟨k, x1, e1, k1, k2, hd1⟩ := zbh T 10 hd (by decide) (by decide)
  unfold zbA bo__law_deed
  rw [zay (ss := [.v (.ob 0), .v (.int 3)]) (by simp) (by simp)]
  by_cases hk5 : k < 5
  · obtain ⟨fs, x2, e2, hr, h3, hd2⟩ := files_ok T hd1
    refine ⟨.look fs, x2, ?_, hr, trivial, hd2⟩
    simp [e1, hk5, e2, cap, Deed.d]
  · obtain ⟨a, x2, e2, a1, a2, hd2⟩ := zbh T 6 hd1 (by decide) (by decide)
    obtain ⟨b, x3, e3, b1, b2, hd3⟩ := zbh T 1000 hd2 (by decide) (by decide)
    obtain ⟨c, x4, e4, c1, c2, hd4⟩ := zbh T 2 hd3 (by decide) (by decide)
    obtain ⟨e, x5, e5, ee1, ee2, hd5⟩ := zbh T 4 hd4 (by decide) (by decide)
    obtain ⟨w, hw, pick⟩ : ∃ w, Wo w ∧ ∀ ρ : Env, ρ[0]? = some (.v (.ob 0)) → (ePick [eCall zae [] [eVar 0, eLit (.int 6)], ePick [eLit (.int 700), eCall zae [] [eVar 0, eLit (.int 1000)]] (eCall zae [] [eVar 0, eLit (.int 2)])] (eBlt gInt [eBin gEq (eCall zae [] [eVar 0, eLit (.int 4)]) (eLit (.int 0))])) ρ (.lst x1 :: T) = some (.v (.int w), .lst x5 :: T) := by
      have hc : c = 0 ∨ c = 1 := by omega
      by_cases he : e = 0
      · rcases hc with rfl | rfl
        · exact ⟨700, ⟨by decide, by decide⟩, fun ρ h => by simp [h, e2, e3, e4, e5, he, cap]⟩
        · exact ⟨b, ⟨b1, b2⟩, fun ρ h => by simp [h, e2, e3, e4, e5, he, cap]⟩
      · rcases hc with rfl | rfl
        · exact ⟨a, ⟨a1, by omega⟩, fun ρ h => by simp [h, e2, e3, e4, e5, he, cap]⟩
        · exact ⟨a, ⟨a1, by omega⟩, fun ρ h => by simp [h, e2, e3, e4, e5, he, cap]⟩
    by_cases hk7 : k < 7
    · obtain ⟨fs, x6, e6, hr, h3, hd6⟩ := files_ok T hd5
      obtain ⟨ps, x7, e7, g1, g2, hd7⟩ := putComp T (k := k) hw fs x6 hd6
      refine ⟨.put ps, x7, ?_, ⟨by rw [g1]; exact hr, g2⟩, fun p hp => h3 p.1 (by rw [← g1]; exact List.mem_map.mpr ⟨p, hp, rfl⟩), hd7⟩
      have hfc : fs.length ≤ 16777216 := Nat.le_trans hr.2.2.1 (by decide)
      simp [-ePick_, e1, hk5, pick, hk7, e6, wipeE, e7, hfc, cap, Deed.d]
    · by_cases hk9 : k < 9
      · obtain ⟨f, x6, e6, f1, f2, hd6⟩ := zbh T 3 hd5 (by decide) (by decide)
        obtain ⟨g, x7, e7, g1, g2, hd7⟩ := zbh T 4 hd6 (by decide) (by decide)
        obtain ⟨h, x8, e8, h1, h2, hd8⟩ := zbh T 4 hd7 (by decide) (by decide)
        obtain ⟨F, hF, hF3, eF⟩ : ∃ F : Nat, F < 10 ∧ in3 F ∧ atI [D.int 0, D.int 4, D.int 9] f = some (.int (F : Nat)) := by
          have hf : f = 0 ∨ f = 1 ∨ f = 2 := by omega
          rcases hf with rfl | rfl | rfl
          · exact ⟨0, by decide, .inl rfl, rfl⟩
          · exact ⟨4, by decide, .inr (.inl rfl), rfl⟩
          · exact ⟨9, by decide, .inr (.inr rfl), rfl⟩
        by_cases hh : h = 0
        · refine ⟨.add F w, x8, ?_, ⟨hF, hw⟩, hF3, hd8⟩
          simp [-ePick_, e1, hk5, pick, hk7, hk9]
          simp [some3, e6, eF, e7, e8, hh, cap, Deed.d]
        · refine ⟨.add F (1 + g), x8, ?_, ⟨hF, by show 0 ≤ 1 + g; omega, by show 1 + g < 1000; omega⟩, hF3, hd8⟩
          simp [-ePick_, e1, hk5, pick, hk7, hk9]
          simp [some3, e6, eF, e7, e8, hh, cap, Deed.d]
      · obtain ⟨ys, x6, e6, hp, hd6⟩ := mixed_ok T (row := [.int 0, .int 4, .int 9]) (by simp [okNs, okN]) (by simp) hd5
        obtain ⟨g, x7, e7, g1, g2, hd7⟩ := zbh T 5 hd6 (by decide) (by decide)
        obtain ⟨h, x8, e8, h1, h2, hd8⟩ := zbh T 4 hd7 (by decide) (by decide)
        obtain ⟨A, B, r, rfl, hA, hB, hAB, hA3, hB3⟩ : ∃ (A B : Nat) (r : List D), ys = .int (A : Nat) :: .int (B : Nat) :: r ∧ A < 10 ∧ B < 10 ∧ A ≠ B ∧ in3 A ∧ in3 B := by
          have hl : ys.length = 3 := hp.length_eq
          match ys, hl, hp with
          | [a, b, c], _, hp =>
            have nd : [a, b, c].Nodup := hp.nodup_iff.mpr (by decide)
            have ma : a = .int 0 ∨ a = .int 4 ∨ a = .int 9 := by simpa using hp.mem_iff.mp (show a ∈ [a, b, c] by simp)
            have mb : b = .int 0 ∨ b = .int 4 ∨ b = .int 9 := by simpa using hp.mem_iff.mp (show b ∈ [a, b, c] by simp)
            have ab : a ≠ b := fun z => by subst z; simp at nd
            have conv : ∀ x : D, x = .int 0 ∨ x = .int 4 ∨ x = .int 9 → ∃ X : Nat, X < 10 ∧ in3 X ∧ x = .int (X : Nat) := fun x h => by
              rcases h with rfl | rfl | rfl
              · exact ⟨0, by decide, .inl rfl, rfl⟩
              · exact ⟨4, by decide, .inr (.inl rfl), rfl⟩
              · exact ⟨9, by decide, .inr (.inr rfl), rfl⟩
            obtain ⟨A, hA, hA3, rfl⟩ := conv a ma
            obtain ⟨B, hB, hB3, rfl⟩ := conv b mb
            exact ⟨A, B, [c], rfl, hA, hB, fun z => ab (by rw [z]), hA3, hB3⟩
        by_cases hh : h = 0
        · refine ⟨.move A B w, x8, ?_, ⟨hA, hB, hAB, hw⟩, ⟨hA3, hB3⟩, hd8⟩
          simp [-ePick_, e1, hk5, pick, hk7, hk9]
          simp [some3, e6, e7, e8, hh, cap, Deed.d]
        · refine ⟨.move A B g, x8, ?_, ⟨hA, hB, hAB, g1, by omega⟩, ⟨hA3, hB3⟩, hd8⟩
          simp [-ePick_, e1, hk5, pick, hk7, hk9]
          simp [some3, e6, e7, e8, hh, cap, Deed.d]
end Ev
namespace Ev
open PySem L2
def gt (ws : List Int) (f : Nat) : Int := ws.getD f 0
def tW (ws : List Int) : D := .tup (ws.map D.int)
def Deed.run (ws : List Int) : Deed → D × List Int
  | .look fs => (.tup (fs.map fun f => .int (gt ws f)), ws)
  | .put ps => (.tup (ps.map fun p => .int (gt ws p.1)), ps.foldl (fun a p => a.set p.1 p.2) ws)
  | .add f w => (.int ((gt ws f + w) % 1000), ws.set f ((gt ws f + w) % 1000))
  | .move a b m => if gt ws a < m ∨ 1000 ≤ gt ws b + m then (.bl false, ws) else (.bl true, (ws.set a (gt ws a - m)).set b (gt ws b + m))
theorem gt_at {ws : List Int} {f : Nat} (h : f < ws.length) : atI (ws.map D.int) (f : Nat) = some (.int (gt ws f)) := by
  rw [atI_nat, List.getElem?_map]
  simp [gt, h]
theorem ix_at {n f : Nat} (h : f < n) : ixN n (f : Nat) = some f := by rw [ixN_nat, if_pos h]
theorem za3 {ws : List Int} {f : Nat} {w : Int} : (ws.map D.int).set f (.int w) = (ws.set f w).map D.int := by rw [List.map_set]
theorem putLoop1 {S : Store} {A B C : Sl} : ∀ (ps : List (Nat × Int)) (ws : List Int) (x y : Sl), (∀ p ∈ ps, p.1 < ws.length) →
    ∃ x' y', loopF (tgTup [4, 5]) bd__law_done_1 .no (ps.map pD) [A, B, .l (ws.map D.int), C, x, y] S = some (.next [A, B, .l ((ps.foldl (fun a p => a.set p.1 p.2) ws).map D.int), C, x', y'] S)
  | [], ws, x, y, _ => ⟨x, y, rfl⟩
  | p :: ps, ws, x, y, h => by
    obtain ⟨x', y', ih⟩ := putLoop1 (S := S) (A := A) (B := B) (C := C) ps (ws.set p.1 p.2) (.v (.int (p.1 : Nat))) (.v (.int p.2)) fun q hq => by rw [List.length_set]; exact h q (by simp [hq])
    refine ⟨x', y', ?_⟩
    rw [List.map_cons, loopF_c]
    have hp := h p (by simp)
    have body : bd__law_done_1 [A, B, .l (ws.map D.int), C, .v (.int (p.1 : Nat)), .v (.int p.2)] S = some (.next [A, B, .l ((ws.set p.1 p.2).map D.int), C, .v (.int (p.1 : Nat)), .v (.int p.2)] S) := by
      unfold bd__law_done_1
      simp [-List.map_set, ix_at hp, za3]
    simp [-List.map_set, pD, body, ih]
theorem law_done_ok {S : Store} {ws : List Int} {d : Deed} (hl : ws.length = 10) (hd : d.Ok) : za6 [.v (tW ws), .v d.d] S = some (.v (.tup [(d.run ws).1, tW (d.run ws).2]), S) := by
  unfold za6 bo__law_done
  rw [zay (ss := [.v (tW ws), .v d.d]) (by simp) (by simp)]
  cases d with
  | look fs =>
    have hf : ∀ f ∈ fs, f < ws.length := fun f h => by rw [hl]; exact hd.2.2.2 f h
    have hc : fs.length ≤ 16777216 := Nat.le_trans hd.2.2.1 (by decide)
    have cm := comp_map (S := S) (ρ := [.v (tW ws), .v (Deed.look fs).d, .l (ws.map D.int), .no, .no, .no]) (tg := tgName 4) (fe := eBin gIx (eVar 2) (eVar 4)) fD (fun f => .int (gt ws f)) (xs := fs) fun f h => ⟨_, rfl, by simp [fD, gt_at (hf f h)]⟩
    simp [tW, Deed.d, Deed.run, wipeE, cap, hc] at cm ⊢
    simp [cm, cap]
  | put ps =>
    have hf : ∀ p ∈ ps, p.1 < ws.length := fun p h => by rw [hl]; exact hd.1.2.2.2 p.1 (List.mem_map.mpr ⟨p, h, rfl⟩)
    have hc : ps.length ≤ 16777216 := by
      have := hd.1.2.2.1
      rw [List.length_map] at this
      omega
    have cm := comp_map (S := S) (ρ := [.v (tW ws), .v (Deed.put ps).d, .l (ws.map D.int), .no, .no, .no]) (tg := tgTup [4, 5]) (fe := eBin gIx (eVar 2) (eVar 4)) pD (fun p => .int (gt ws p.1)) (xs := ps) fun p h => ⟨_, rfl, by simp [gt_at (hf p h)]⟩
    obtain ⟨x', y', lp⟩ := putLoop1 (S := S) (A := .v (tW ws)) (B := .v (Deed.put ps).d) (C := .v (.tup (ps.map fun p => .int (gt ws p.1)))) ps ws .no .no hf
    simp [tW, Deed.d, Deed.run, wipeE, cap, hc] at cm lp ⊢
    simp [cm, lp, cap]
  | add f w =>
    have hf : f < ws.length := by rw [hl]; exact hd.1
    have hm : ∀ i : Int, gMod S (.v (.int i)) (.v (.int 1000)) = some (.v (.int (i % 1000))) := fun i => gModI (by decide)
    have g2 := gt_at (ws := ws.set f ((gt ws f + w) % 1000)) (f := f) (by simpa using hf)
    have g3 : gt (ws.set f ((gt ws f + w) % 1000)) f = (gt ws f + w) % 1000 := by simp [gt, hf]
    rw [g3] at g2
    simp [-List.map_set, tW, Deed.d, Deed.run, cap, gt_at hf, hm, ix_at hf, za3, g2]
  | move a b m =>
    obtain ⟨ha, hb, hab, hm⟩ := hd
    rw [← hl] at ha hb
    have g2 := gt_at (ws := ws.set a (gt ws a - m)) (f := b) (by simpa using hb)
    have g3 : gt (ws.set a (gt ws a - m)) b = gt ws b := by
      unfold gt
      simp [List.getElem?_set_ne hab]
    rw [g3] at g2
    have i2 : ixN (ws.set a (gt ws a - m)).length (b : Nat) = some b := ix_at (by simpa using hb)
    by_cases h1 : gt ws a < m
    · simp [tW, Deed.d, Deed.run, cap, gt_at ha, gt_at hb, h1]
    · by_cases h2 : 1000 ≤ gt ws b + m
      · have h3 : 999 < gt ws b + m := by omega
        simp [tW, Deed.d, Deed.run, cap, gt_at ha, gt_at hb, h1, h2, h3]
      · have h3 : ¬ 999 < gt ws b + m := by omega
        simp [-List.map_set, tW, Deed.d, Deed.run, cap, gt_at ha, gt_at hb, h1, h2, h3, ix_at ha, za3, g2, ix_at hb]
theorem putLoop2 {S : Store} {A B C D' E F : Sl} : ∀ (ps : List (Nat × Int)) (ws : List Int) (x y : Sl), (∀ p ∈ ps, p.1 < ws.length) →
    ∃ x' y', loopF (tgTup [7, 8]) bd_done_1 .no (ps.map pD) [A, B, .l (ws.map D.int), C, D', E, F, x, y] S = some (.next [A, B, .l ((ps.foldl (fun a p => a.set p.1 p.2) ws).map D.int), C, D', E, F, x', y'] S)
  | [], ws, x, y, _ => ⟨x, y, rfl⟩
  | p :: ps, ws, x, y, h => by
    obtain ⟨x', y', ih⟩ := putLoop2 (S := S) (A := A) (B := B) (C := C) (D' := D') (E := E) (F := F) ps (ws.set p.1 p.2) (.v (.int (p.1 : Nat))) (.v (.int p.2)) fun q hq => by rw [List.length_set]; exact h q (by simp [hq])
    refine ⟨x', y', ?_⟩
    rw [List.map_cons, loopF_c]
    have hp := h p (by simp)
    have body : bd_done_1 [A, B, .l (ws.map D.int), C, D', E, F, .v (.int (p.1 : Nat)), .v (.int p.2)] S = some (.next [A, B, .l ((ws.set p.1 p.2).map D.int), C, D', E, F, .v (.int (p.1 : Nat)), .v (.int p.2)] S) := by
      unfold bd_done_1
      simp [-List.map_set, ix_at hp, za3]
    simp [-List.map_set, pD, body, ih]
theorem done_ok {S : Store} {ws : List Int} {d : Deed} (hl : ws.length = 10) (hd : d.Ok) : ev_done [.v (tW ws), .v d.d] S = some (.v (.tup [(d.run ws).1, tW (d.run ws).2]), S) := by
  unfold ev_done bo_done
  rw [zay (ss := [.v (tW ws), .v d.d]) (by simp) (by simp)]
  cases d with
  | look fs =>
    have hf : ∀ f ∈ fs, f < ws.length := fun f h => by rw [hl]; exact hd.2.2.2 f h
    have hc : fs.length ≤ 16777216 := Nat.le_trans hd.2.2.1 (by decide)
    have cm := comp_map (S := S) (ρ := [.v (tW ws), .v (Deed.look fs).d, .l (ws.map D.int), .no, .no, .no, .no, .no, .no]) (tg := tgName 7) (fe := eBin gIx (eVar 0) (eVar 7)) fD (fun f => .int (gt ws f)) (xs := fs) fun f h => ⟨_, rfl, by simp [fD, tW, gt_at (hf f h)]⟩
    simp [tW, Deed.d, Deed.run, wipeE, cap, hc] at cm ⊢
    simp [cm, cap]
  | put ps =>
    have hf : ∀ p ∈ ps, p.1 < ws.length := fun p h => by rw [hl]; exact hd.1.2.2.2 p.1 (List.mem_map.mpr ⟨p, h, rfl⟩)
    have hc : ps.length ≤ 16777216 := by
      have := hd.1.2.2.1
      rw [List.length_map] at this
      omega
    obtain ⟨x', y', lp⟩ := putLoop2 (S := S) (A := .v (tW ws)) (B := .v (Deed.put ps).d) (C := .no) (D' := .no) (E := .no) (F := .no) ps ws .no .no hf
    have cm := comp_map (S := S) (ρ := [.v (tW ws), .v (Deed.put ps).d, .l ((ps.foldl (fun a p => a.set p.1 p.2) ws).map D.int), .no, .no, .no, .no, .no, .no]) (tg := tgTup [7, 8]) (fe := eBin gIx (eVar 0) (eVar 7)) pD (fun p => .int (gt ws p.1)) (xs := ps) fun p h => ⟨_, rfl, by simp [tW, gt_at (hf p h)]⟩
    simp [tW, Deed.d, Deed.run, wipeE, cap, hc] at cm lp ⊢
    simp [cm, lp, cap, wipeE, hc]
  | add f w =>
    have hf : f < ws.length := by rw [hl]; exact hd.1
    have hm : ∀ i : Int, gMod S (.v (.int i)) (.v (.int 1000)) = some (.v (.int (i % 1000))) := fun i => gModI (by decide)
    have g2 := gt_at (ws := ws.set f ((gt ws f + w) % 1000)) (f := f) (by simpa using hf)
    have g3 : gt (ws.set f ((gt ws f + w) % 1000)) f = (gt ws f + w) % 1000 := by simp [gt, hf]
    rw [g3] at g2
    simp [-List.map_set, tW, Deed.d, Deed.run, cap, gt_at hf, hm, ix_at hf, za3, g2]
  | move a b m =>
    obtain ⟨ha, hb, hab, hm⟩ := hd
    rw [← hl] at ha hb
    by_cases h1 : gt ws a < m
    · simp [tW, Deed.d, Deed.run, cap, gt_at ha, gt_at hb, h1]
    · by_cases h2 : 1000 ≤ gt ws b + m
      · simp [tW, Deed.d, Deed.run, cap, gt_at ha, gt_at hb, h1, h2]
      · simp [-List.map_set, tW, Deed.d, Deed.run, cap, gt_at ha, gt_at hb, h1, h2, ix_at ha, za3, ix_at hb]
end Ev
namespace Ev
open PySem L2
def Ans : Deed → D → Prop
  | .look fs, a => ∃ ns : List Int, a = .tup (ns.map D.int) ∧ ns.length = fs.length ∧ ∀ n ∈ ns, Wo n
  | .put ps, a => ∃ ns : List Int, a = .tup (ns.map D.int) ∧ ns.length = ps.length ∧ ∀ n ∈ ns, Wo n
  | .add _ _, a => ∃ n : Int, a = .int n ∧ Wo n
  | .move _ _ _, a => ∃ b : Bool, a = .bl b
def Ws (ws : List Int) : Prop := ws.length = 10 ∧ ∀ w ∈ ws, Wo w
theorem gt_wo {ws : List Int} (h : Ws ws) (f : Nat) : Wo (gt ws f) := by
  unfold gt
  rw [List.getD_eq_getElem?_getD]
  cases q : ws[f]? with
  | none => exact ⟨by simp, by simp⟩
  | some w => exact h.2 w (List.mem_of_getElem? q)
theorem set_ws {ws : List Int} (h : Ws ws) {f : Nat} {w : Int} (hw : Wo w) : Ws (ws.set f w) :=
  ⟨by rw [List.length_set]; exact h.1, fun x hx => (List.mem_or_eq_of_mem_set hx).elim (h.2 x) fun e => e ▸ hw⟩
theorem fold_ws : ∀ {ps : List (Nat × Int)} {ws : List Int}, Ws ws → (∀ p ∈ ps, Wo p.2) → Ws (ps.foldl (fun a p => a.set p.1 p.2) ws)
  | [], _, h, _ => h
  | p :: ps, ws, h, hp => by
    rw [List.foldl_cons]
    exact fold_ws (set_ws h (hp p (by simp))) fun q hq => hp q (by simp [hq])
theorem run_ok {ws : List Int} {d : Deed} (h : Ws ws) (hd : d.Ok) : Ans d (d.run ws).1 ∧ Ws (d.run ws).2 := by
  cases d with
  | look fs =>
    refine ⟨⟨fs.map (gt ws), by simp [Deed.run], by simp, fun n hn => ?_⟩, h⟩
    obtain ⟨f, _, rfl⟩ := List.mem_map.mp hn
    exact gt_wo h f
  | put ps =>
    refine ⟨⟨ps.map fun p => gt ws p.1, by simp [Deed.run], by simp, fun n hn => ?_⟩, fold_ws h hd.2⟩
    obtain ⟨f, _, rfl⟩ := List.mem_map.mp hn
    exact gt_wo h _
  | add f w =>
    have hm : Wo ((gt ws f + w) % 1000) := ⟨Int.emod_nonneg _ (by decide), Int.emod_lt_of_pos _ (by decide)⟩
    exact ⟨⟨_, rfl, hm⟩, set_ws h hm⟩
  | move a b m =>
    have ha := gt_wo h a
    have hb := gt_wo h b
    have hm := hd.2.2.2
    by_cases c : gt ws a < m ∨ 1000 ≤ gt ws b + m
    · simp only [Deed.run, if_pos c]
      exact ⟨⟨_, rfl⟩, h⟩
    · simp only [Deed.run, if_neg c]
      unfold Wo at ha hb hm
      exact ⟨⟨_, rfl⟩, set_ws (set_ws h ⟨by omega, by omega⟩) ⟨by omega, by omega⟩⟩
structure Row where
  u : Nat
  dd : Deed
  b : Int
  e : Option (Int × D)
def Row.end_ (r : Row) : D := match r.e with
  | some p => .int p.1
  | none => .non
def Row.ans (r : Row) : D := match r.e with
  | some p => p.2
  | none => .non
def Row.d (r : Row) : D := .tup [.int (r.u : Nat), r.dd.d, .int r.b, r.end_, r.ans]
def Row.last (r : Row) : Int := match r.e with
  | some p => p.1
  | none => r.b
def Row.Ok (m : Int) (r : Row) : Prop := r.u < 100 ∧ r.dd.Ok ∧ 0 ≤ r.b ∧ r.b ≤ m ∧ match r.e with
  | some p => r.b < p.1 ∧ p.1 ≤ m ∧ Ans r.dd p.2
  | none => True
def Hist (m : Int) (rows : List Row) : Prop := (∀ r ∈ rows, r.Ok m) ∧ rows.Pairwise fun r s => r.u = s.u → r.last < s.b
theorem Row.Ok.mono {m m' : Int} {r : Row} (h : r.Ok m) (hm : m ≤ m') : r.Ok m' := by
  unfold Row.Ok at h ⊢
  obtain ⟨h1, h2, h3, h4, h5⟩ := h
  refine ⟨h1, h2, h3, by omega, ?_⟩
  cases q : r.e with
  | none => trivial
  | some p =>
    rw [q] at h5
    simp only at h5 ⊢
    exact ⟨h5.1, by omega, h5.2.2⟩
theorem zero10 {S : Store} : gMul S (.v (.tup [.int 0])) (.v (.int 10)) = some (.v (tW (List.replicate 10 0))) := by
  simp [gMul, tW]
theorem ws0 : Ws (List.replicate 10 0) := ⟨by simp, fun w hw => by
  have := (List.mem_replicate.mp hw).2
  subst this
  exact ⟨by decide, by decide⟩⟩
theorem deed_word {d : Deed} : ∃ (w : Str) (r : List D), d.d = .tup (.str w :: r) ∧ PyData.strOk w = true ∧ (w = "look" ∨ w ≠ "look") := by
  cases d with
  | look fs => exact ⟨_, _, rfl, by simp, .inl rfl⟩
  | put ps => exact ⟨_, _, rfl, by simp, .inr (by simp)⟩
  | add f w => exact ⟨_, _, rfl, by simp, .inr (by simp)⟩
  | move a b m => exact ⟨_, _, rfl, by simp, .inr (by simp)⟩
structure HS (k many first : Nat) (ws : List Int) (mo : Int) (es : List Int) (rows : List Row) : Prop where
  w : Ws ws
  m0 : 0 ≤ mo
  m1 : mo ≤ 2 * k
  le : es.length = many
  e0 : ∀ e ∈ es, 0 ≤ e
  e1 : ∀ e ∈ es, e ≤ 2 * k + 5
  h : Hist (2 * k + 5) rows
  r : ∀ r ∈ rows, ∃ j, r.u = first + j ∧ j < many ∧ ∀ e, es[j]? = some e → r.last ≤ e
  n : rows.length ≤ k
  f : ∀ r ∈ rows, r.dd.F3
theorem hist_turn {T : Store} {k many first : Nat} {ws : List Int} {mo : Int} {es : List Int} {rows : List Row} {xs : List D} {hon : Bool} {A1 A9 A10 A11 A12 A13 A14 A15 : Sl} (h : HS k many first ws mo es rows) (hm : 0 < many) (hm2 : many ≤ 3) (hf : first ≤ 97) (hk : k ≤ 100) (hd : Dc xs) :
    ∃ ws' mo' es' rows' xs' B10 B11 B12 B13 B14 B15, zbm [.v (.ob 0), A1, .v (.int (many : Nat)), .v (.int (first : Nat)), .l (rows.map Row.d), .l (es.map D.int), .v (tW ws), .v (.int mo), .v (.bl hon), A9, A10, A11, A12, A13, A14, A15] (.lst xs :: T)
      = some (.next [.v (.ob 0), A1, .v (.int (many : Nat)), .v (.int (first : Nat)), .l (rows'.map Row.d), .l (es'.map D.int), .v (tW ws'), .v (.int mo'), .v (.bl hon), A9, B10, B11, B12, B13, B14, B15] (.lst xs' :: T)) ∧ HS (k + 1) many first ws' mo' es' rows' ∧ Dc xs' := by
  obtain ⟨j, x1, e1, j1, j2, hd1⟩ := zbh T (many : Int) hd (by omega) (by omega)
  obtain ⟨J, rfl⟩ : ∃ J : Nat, j = J := ⟨j.toNat, by omega⟩
  have hJ : J < es.length := by rw [h.le]; omega
  obtain ⟨dd, x2, e2, hdd, hf3, hd2⟩ := deed_ok T hd1
  obtain ⟨p, x3, e3, p1, p2, hd3⟩ := zbh T 2 hd2 (by decide) (by decide)
  obtain ⟨q, x4, e4, q1, q2, hd4⟩ := zbh T 6 hd3 (by decide) (by decide)
  obtain ⟨v, ev⟩ : ∃ v, es[J]? = some v := ⟨es[J], by simp [hJ]⟩
  have hv0 := h.e0 v (List.mem_of_getElem? ev)
  have hv1 := h.e1 v (List.mem_of_getElem? ev)
  have av : atI (es.map D.int) (J : Nat) = some (.int v) := by rw [atI_nat, List.getElem?_map, ev]; rfl
  have mo0 := h.m0
  have mo1 := h.m1
  have dn := law_done_ok (S := .lst x4 :: T) h.w.1 hdd
  have rk := run_ok h.w hdd
  obtain ⟨ans, x5, hd5, hans, e5⟩ : ∃ ans x5, Dc x5 ∧ Ans dd ans ∧ ∀ (B14 : Sl), (sIf (eAnd (eUn gNot (eVar 8)) (eBin gEq (eCall zae [] [eVar 0, eLit (.int 2)]) (eLit (.int 0)))) (sAsg 15 (eBin gIx (eCall za6 [] [eIf (eBin gNe (eBin gIx (eVar 11) (eLit (.int 0))) (eLit (.str "look"))) (eVar 13) (eBin gMul (eTup [eLit (.int 0)]) (eLit (.int 10))), eVar 11]) (eLit (.int 0)))) sNil)
      [.v (.ob 0), A1, .v (.int (many : Nat)), .v (.int (first : Nat)), .l (rows.map Row.d), .l (es.map D.int), .v (tW (dd.run ws).2), .v (.int (mo + 1 + p)), .v (.bl hon), A9, .v (.int (J : Nat)), .v dd.d, .v (.int (max (v + 1) (mo + 1 + p - q))), .v (tW ws), B14, .v (dd.run ws).1] (.lst x4 :: T)
      = some (.next [.v (.ob 0), A1, .v (.int (many : Nat)), .v (.int (first : Nat)), .l (rows.map Row.d), .l (es.map D.int), .v (tW (dd.run ws).2), .v (.int (mo + 1 + p)), .v (.bl hon), A9, .v (.int (J : Nat)), .v dd.d, .v (.int (max (v + 1) (mo + 1 + p - q))), .v (tW ws), B14, .v ans] (.lst x5 :: T)) := by
    cases hon with
    | true => exact ⟨_, x4, hd4, rk.1, fun B14 => by simp⟩
    | false =>
      obtain ⟨g, x5, e5, g1, g2, hd5⟩ := zbh T 2 hd4 (by decide) (by decide)
      by_cases hg : g = 0
      · obtain ⟨w, r, e6, ow, hw⟩ := deed_word (d := dd)
        rcases hw with hw | hw
        · refine ⟨(dd.run (List.replicate 10 0)).1, x5, hd5, (run_ok ws0 hdd).1, fun B14 => ?_⟩
          have d0 := law_done_ok (S := .lst x5 :: T) (ws := List.replicate 10 0) ws0.1 hdd
          rw [e6] at d0 ⊢
          simp [e5, hg, hw, zero10, cap] at d0 ⊢
          simp [d0]
        · refine ⟨(dd.run ws).1, x5, hd5, rk.1, fun B14 => ?_⟩
          have d0 := law_done_ok (S := .lst x5 :: T) h.w.1 hdd
          rw [e6] at d0 ⊢
          simp [e5, hg, ow, hw, d0]
      · exact ⟨_, x5, hd5, rk.1, fun B14 => by simp [e5, hg]⟩
  obtain ⟨s, x6, e6, s1, s2, hd6⟩ := zbh T 6 hd5 (by decide) (by decide)
  obtain ⟨t, x7, e7, t1, t2, hd7⟩ := zbh T 6 hd6 (by decide) (by decide)
  have hbg : (0 : Int) ≤ max (v + 1) (mo + 1 + p - q) ∧ v < max (v + 1) (mo + 1 + p - q) ∧ max (v + 1) (mo + 1 + p - q) ≤ 2 * k + 6 := by omega
  generalize hb : max (v + 1) (mo + 1 + p - q) = bg at *
  have hen : bg < max (bg + 1) (mo + 1 + p + s) ∧ max (bg + 1) (mo + 1 + p + s) ≤ 2 * k + 7 := by omega
  generalize he : max (bg + 1) (mo + 1 + p + s) = en at *
  have add : ∀ (e : Option (Int × D)) (l : Int), (Row.mk (first + J) dd bg e).last = l → (Row.mk (first + J) dd bg e).Ok (2 * (k + 1 : Nat) + 5) → v ≤ l → 0 ≤ l → l ≤ 2 * (k + 1 : Nat) + 5 →
      HS (k + 1) many first (dd.run ws).2 (mo + 1 + p) (es.set J l) (rows ++ [⟨first + J, dd, bg, e⟩]) := by
    intro e l el ok hvl l0 l1
    refine ⟨rk.2, by omega, by omega, by rw [List.length_set]; exact h.le, fun x hx => ?_, fun x hx => ?_, ⟨fun r hr => ?_, ?_⟩, fun r hr => ?_, by rw [List.length_append]; have := h.n; simp; omega, fun r hr => ?_⟩
    · exact (List.mem_or_eq_of_mem_set hx).elim (h.e0 x) fun z => z ▸ l0
    · exact (List.mem_or_eq_of_mem_set hx).elim (fun z => by have := h.e1 x z; omega) fun z => z ▸ l1
    · rcases List.mem_append.mp hr with hr | hr
      · exact (h.h.1 r hr).mono (by omega)
      · rw [List.mem_singleton.mp hr]; exact ok
    · rw [List.pairwise_append]
      refine ⟨h.h.2, by simp, fun r hr z hz => ?_⟩
      rw [List.mem_singleton.mp hz]
      intro eu
      obtain ⟨j', g1, g2, g3⟩ := h.r r hr
      have : j' = J := by simp only at eu; omega
      subst this
      have := g3 v ev
      show r.last < bg
      omega
    · rcases List.mem_append.mp hr with hr | hr
      · obtain ⟨j', g1, g2, g3⟩ := h.r r hr
        refine ⟨j', g1, g2, fun x hx => ?_⟩
        by_cases hj : j' = J
        · subst hj
          rw [List.getElem?_set_self hJ] at hx
          cases hx
          have := g3 v ev
          omega
        · rw [List.getElem?_set_ne (Ne.symm hj)] at hx
          exact g3 x hx
      · rw [List.mem_singleton.mp hr]
        refine ⟨J, rfl, by omega, fun x hx => ?_⟩
        rw [List.getElem?_set_self hJ] at hx
        cases hx
        rw [el]
        exact Int.le_refl _
    · rcases List.mem_append.mp hr with hr | hr
      · exact h.f r hr
      · rw [List.mem_singleton.mp hr]; exact hf3
  have ixJ : ixN es.length (J : Nat) = some J := ix_at hJ
  have avE : atI ((es.set J en).map D.int) (J : Nat) = some (.int en) := by rw [atI_nat, List.getElem?_map, List.getElem?_set_self hJ]; rfl
  have hn : rows.length < 16777216 := by have := h.n; omega
  have fJ : (first : Int) + (J : Int) = ((first + J : Nat) : Int) := by omega
  by_cases ht : t = 0
  · refine ⟨_, _, es.set J bg, rows ++ [⟨first + J, dd, bg, none⟩], x7, .v (.int (J : Nat)), .v dd.d, .v (.int bg), .v (tW ws), .v (Row.d ⟨first + J, dd, bg, none⟩), .v ans, ?_, add none bg rfl ⟨by show first + J < 100; omega, hdd, by show 0 ≤ bg; omega, by show bg ≤ _; omega, trivial⟩ (by omega) (by omega) (by omega), hd7⟩
    unfold zbm
    simp [-sIf_, -List.map_set, e1, e2, e3, e4, av, hb, dn, e5, e6, he, ixJ, za3, avE, cap]
    simp [-List.map_set, e7, ht, cap, hn, za3, Row.d, Row.end_, Row.ans, ixJ]
  · refine ⟨_, _, es.set J en, rows ++ [⟨first + J, dd, bg, some (en, ans)⟩], x7, .v (.int (J : Nat)), .v dd.d, .v (.int bg), .v (tW ws), .v (Row.d ⟨first + J, dd, bg, some (en, ans)⟩), .v ans, ?_, add (some (en, ans)) en rfl ⟨by show first + J < 100; omega, hdd, by show 0 ≤ bg; omega, by show bg ≤ _; omega, by show bg < en; omega, by show en ≤ _; omega, hans⟩ (by omega) (by omega) (by omega), hd7⟩
    unfold zbm
    simp [-sIf_, -List.map_set, e1, e2, e3, e4, av, hb, dn, e5, e6, he, ixJ, za3, avE, cap]
    simp [-List.map_set, e7, ht, cap, hn, za3, Row.d, Row.end_, Row.ans]
theorem hist_loop {T : Store} {many first : Nat} {hon : Bool} {A1 : Sl} (hm : 0 < many) (hm2 : many ≤ 3) (hf : first ≤ 97) : ∀ (its : List D) (k : Nat) (ws : List Int) (mo : Int) (es : List Int) (rows : List Row) (xs : List D) (A9 A10 A11 A12 A13 A14 A15 : Sl), HS k many first ws mo es rows → k + its.length ≤ 100 → Dc xs →
    ∃ ws' mo' es' rows' xs' B9 B10 B11 B12 B13 B14 B15, loopF (tgName 9) zbm .no its [.v (.ob 0), A1, .v (.int (many : Nat)), .v (.int (first : Nat)), .l (rows.map Row.d), .l (es.map D.int), .v (tW ws), .v (.int mo), .v (.bl hon), A9, A10, A11, A12, A13, A14, A15] (.lst xs :: T)
      = some (.next [.v (.ob 0), A1, .v (.int (many : Nat)), .v (.int (first : Nat)), .l (rows'.map Row.d), .l (es'.map D.int), .v (tW ws'), .v (.int mo'), .v (.bl hon), B9, B10, B11, B12, B13, B14, B15] (.lst xs' :: T)) ∧ HS (k + its.length) many first ws' mo' es' rows' ∧ Dc xs'
  | [], k, ws, mo, es, rows, xs, A9, A10, A11, A12, A13, A14, A15, h, _, hd => ⟨ws, mo, es, rows, xs, A9, A10, A11, A12, A13, A14, A15, rfl, h, hd⟩
  | d :: its, k, ws, mo, es, rows, xs, A9, A10, A11, A12, A13, A14, A15, h, hk, hd => by
    rw [List.length_cons] at hk
    obtain ⟨ws1, mo1, es1, rows1, xs1, C10, C11, C12, C13, C14, C15, e1, h1, hd1⟩ := hist_turn (T := T) (hon := hon) (A1 := A1) (A9 := .v d) (A10 := A10) (A11 := A11) (A12 := A12) (A13 := A13) (A14 := A14) (A15 := A15) h hm hm2 hf (by omega) hd
    obtain ⟨ws2, mo2, es2, rows2, xs2, B9, B10, B11, B12, B13, B14, B15, e2, h2, hd2⟩ := hist_loop (T := T) (hon := hon) (A1 := A1) hm hm2 hf its (k + 1) ws1 mo1 es1 rows1 xs1 (.v d) C10 C11 C12 C13 C14 C15 h1 (by omega) hd1
    refine ⟨ws2, mo2, es2, rows2, xs2, B9, B10, B11, B12, B13, B14, B15, ?_, by rw [List.length_cons, show k + (its.length + 1) = k + 1 + its.length by omega]; exact h2, hd2⟩
    rw [loopF_c]
    simp [-List.map_set, e1, e2]
theorem rep0 {S : Store} {many : Nat} (h : many ≤ 3) : gMul S (.l [.int 0]) (.v (.int (many : Nat))) = some (.l ((List.replicate many 0).map D.int)) := by
  have h' : many = 0 ∨ many = 1 ∨ many = 2 ∨ many = 3 := by omega
  rcases h' with rfl | rfl | rfl | rfl <;> rfl
theorem small_n {n : Int} (h : 0 ≤ n) (h' : n ≤ 1000) : smallN n = true := by
  unfold smallN
  rw [Bool.and_eq_true, decide_eq_true_eq, decide_eq_true_eq]
  omega
theorem capL {n : Nat} (h : n ≤ 1000) : (n ≤ cap) = True := eq_true (Nat.le_trans h (by decide))
@[simp] theorem cap0 : (0 ≤ cap) = True := capL (by decide)
@[simp] theorem cap1 : (1 ≤ cap) = True := capL (by decide)
@[simp] theorem cap2 : (2 ≤ cap) = True := capL (by decide)
@[simp] theorem cap3 : (3 ≤ cap) = True := capL (by decide)
@[simp] theorem cap4 : (4 ≤ cap) = True := capL (by decide)
@[simp] theorem cap5 : (5 ≤ cap) = True := capL (by decide)
theorem hist_ok {xs : List D} (T : Store) (most : Nat) (hmost : most ≤ 12) (hd : Dc xs) :
    ∃ rows xs', zaJ [.v (.ob 0), .v (.int (most : Nat))] (.lst xs :: T) = some (.l (rows.map Row.d), .lst xs' :: T) ∧ Hist 29 rows ∧ rows.length ≤ 12 ∧ (∀ r ∈ rows, r.dd.F3) ∧ Dc xs' := by
  obtain ⟨a, x1, e1, a1, a2, hd1⟩ := zbh T 3 hd (by decide) (by decide)
  obtain ⟨b, x2, e2, b1, b2, hd2⟩ := zbh T 3 hd1 (by decide) (by decide)
  obtain ⟨c, x3, e3, c1, c2, hd3⟩ := zbh T 3 hd2 (by decide) (by decide)
  obtain ⟨n, x4, e4, n1, n2, hd4⟩ := zbh T ((most : Int) + 1) hd3 (by omega) (by omega)
  obtain ⟨first, hf, ef⟩ : ∃ first : Nat, first ≤ 97 ∧ atI [R.v (.int 0), R.v (.int 0), R.v (.int 97)] b = some (.v (.int (first : Nat))) := by
    have hb : b = 0 ∨ b = 1 ∨ b = 2 := by omega
    rcases hb with rfl | rfl | rfl
    · exact ⟨0, by decide, rfl⟩
    · exact ⟨0, by decide, rfl⟩
    · exact ⟨97, by decide, rfl⟩
  obtain ⟨many, rfl⟩ : ∃ many : Nat, a = (many : Int) - 1 := ⟨(a + 1).toNat, by omega⟩
  have rep := rep0 (S := .lst x2 :: T) (many := many) (by omega)
  have z0 : HS 0 many first (List.replicate 10 0) 0 (List.replicate many 0) [] := by
    refine ⟨ws0, by simp, by simp, by simp, fun e he => ?_, fun e he => ?_, ⟨by simp, by simp⟩, by simp, by simp, by simp⟩
    · rw [(List.mem_replicate.mp he).2]; exact Int.le_refl _
    · rw [(List.mem_replicate.mp he).2]; decide
  have hlen : (rangeD n).length = n.toNat := by simp [rangeD]
  obtain ⟨ws, mo, es, rows, xs', B9, B10, B11, B12, B13, B14, B15, e5, hs, hd5⟩ := hist_loop (T := T) (many := many) (first := first) (hon := decide (0 < c)) (A1 := .v (.int (most : Nat))) (by omega) (by omega) hf (rangeD n) 0 _ 0 _ [] x4 .no .no .no .no .no .no .no z0 (by rw [hlen]; omega) hd4
  refine ⟨rows, xs', ?_, ⟨fun r hr => (hs.h.1 r hr).mono (by rw [hlen]; omega), hs.h.2⟩, by have := hs.n; rw [hlen] at this; omega, hs.f, hd5⟩
  unfold zaJ bo__law_history
  rw [zay (ss := [.v (.ob 0), .v (.int (most : Nat))]) (by simp) (by simp)]
  have e1' : (1 : Int) + ((many : Int) - 1) = many := by omega
  have sn := small_n n1 (by omega)
  simp [-List.map_replicate] at e5
  simp -implicitDefEqProofs [-List.map_replicate, e1, e1', e2, ef, rep, zero10, e3, e4, sn]
  rw [e5]
  simp
end Ev
namespace Ev
open PySem L2
section
variable {S : Store}
theorem comp_none {α : Type} {ρ : Env} {tg : Tg} {ft fe : E} (c : α → D) {xs : List α} (h : ∀ x ∈ xs, ∃ ρ1, tg (c x) ρ = some ρ1 ∧ ft ρ1 S = some (.v (.bl false), S)) : compF tg ft fe .no ρ (xs.map c) S = some ([], S) := by
  rw [zbd c (fun _ => false) c fun x hx => by
    obtain ⟨ρ1, h1, h2⟩ := h x hx
    exact ⟨ρ1, h1, h2, fun z => by cases z⟩]
  rw [List.filter_eq_nil_iff.mpr (fun _ _ => by simp)]
  rfl
theorem below_int {i b : Int} : zaj [.v (.int i), .v (.int b)] S = some (.v (.bl (decide (0 ≤ i ∧ i < b))), S) := by
  unfold zaj zbP
  rw [zay (ss := [.v (.int i), .v (.int b)]) (by simp) (by simp)]
  by_cases h : 0 ≤ i
  · simp -implicitDefEqProofs [isTy, h]
  · simp -implicitDefEqProofs [isTy, h]
theorem zbO {i b : Int} (h : 0 ≤ i) (h' : i < b) : zaj [.v (.int i), .v (.int b)] S = some (.v (.bl true), S) := by
  rw [below_int, decide_eq_true ⟨h, h'⟩]
theorem sortU_rise : ∀ {l : List Int}, l.Pairwise (· < ·) → sortU l = l
  | [], _ => rfl
  | a :: l, h => by
    rw [List.pairwise_cons] at h
    rw [sortU, sortU_rise h.2]
    cases l with
    | nil => rfl
    | cons b l => rw [insU, if_pos (h.1 b (by simp))]
theorem fD_ints {fs : List Nat} : fs.map fD = (fs.map fun f => ((f : Nat) : Int)).map D.int := by
  rw [List.map_map]; rfl
theorem rising_ok {fs : List Nat} (h : Ris fs) : zaw [.v (.tup (fs.map fD))] S = some (.v (.bl true), S) := by
  unfold zaw zbe
  rw [zay (ss := [.v (.tup (fs.map fD))]) (by simp) (by simp)]
  obtain ⟨h1, h2, h3, h4⟩ := h
  have cm := comp_none (S := S) (ρ := [.v (.tup (fs.map fD)), .no]) (tg := tgName 1) (ft := eUn gNot (eCall zaj [] [eVar 1, eLit (.int 10)])) (fe := eVar 1) fD (xs := fs) fun f hf => ⟨_, rfl, by
    have := h4 f hf
    simp -implicitDefEqProofs [fD, zbO (S := S) (i := (f : Nat)) (b := 10) (by omega) (by omega)]⟩
  have hr : sortU (fs.map fun f => ((f : Nat) : Int)) = fs.map fun f => ((f : Nat) : Int) := sortU_rise (by rw [List.pairwise_map]; exact h1.imp fun h => by omega)
  have c1 : (1 : Int) ≤ fs.length := by omega
  have c2 : (fs.length : Int) ≤ 4 := by omega
  have c3 : fs.length ≤ cap := Nat.le_trans h3 (by decide)
  have c4 : fs.length < 64 := by omega
  have fv : fVar 0 [.v (.tup (fs.map fD)), .no] S = some ((fs.map fD, .no, true), S) := fVar_t rfl
  have i1 : ints1 (fs.map fD) = some (fs.map fun f => ((f : Nat) : Int)) := by rw [fD_ints]; exact ints1_map _
  have eq : gEq S (.l (fs.map fD)) (.l ((fs.map fun f => ((f : Nat) : Int)).map D.int)) = some (.v (.bl true)) := by
    rw [fD_ints, gEq_ll (zbN _) (zbN _), eqDs_ints, decide_eq_true rfl]
  have ne : gNe S (.l []) (.l []) = some (.v (.bl false)) := by rw [gNe_ll (by simp [okNs]) (by simp [okNs])]; simp
  simp -implicitDefEqProofs [-List.map_map, isTy, c1, c2, fv, c3, wipeE, cm, ne, eSortedSet, i1, c4, hr, eq]
theorem pairs_ok {ps : List (Nat × Int)} (h : Ris (ps.map (·.1))) (hw : ∀ p ∈ ps, Wo p.2) : zaK [.v (.tup (ps.map pD))] S = some (.v (.bl true), S) := by
  unfold zaK zbn
  rw [zay (ss := [.v (.tup (ps.map pD))]) (by simp) (by simp)]
  have c3 : ps.length ≤ cap := by
    have := h.2.2.1
    rw [List.length_map] at this
    exact Nat.le_trans this (by decide)
  have fv : fVar 0 [.v (.tup (ps.map pD)), .no] S = some ((ps.map pD, .no, true), S) := fVar_t rfl
  have ne : gNe S (.l []) (.l []) = some (.v (.bl false)) := by rw [gNe_ll (by simp [okNs]) (by simp [okNs])]; simp
  have cm1 := comp_none (S := S) (ρ := [.v (.tup (ps.map pD)), .no]) (tg := tgName 1) (ft := eOr (eUn gNot (eIsi .tuple (eVar 1))) (eBin gNe (eBlt gLen [eVar 1]) (eLit (.int 2)))) (fe := eVar 1) pD (xs := ps) fun p hp => ⟨_, rfl, by
    simp -implicitDefEqProofs [pD, isTy]⟩
  have cm2 := comp_none (S := S) (ρ := [.v (.tup (ps.map pD)), .no]) (tg := tgName 1) (ft := eUn gNot (eCall zaj [] [eBin gIx (eVar 1) (eLit (.int 1)), eLit (.int 1000)])) (fe := eVar 1) pD (xs := ps) fun p hp => ⟨_, rfl, by
    have := hw p hp
    simp -implicitDefEqProofs [pD, zbO this.1 this.2]⟩
  have cm3 := comp_map (S := S) (ρ := [.v (.tup (ps.map pD)), .no]) (tg := tgName 1) (fe := eBin gIx (eVar 1) (eLit (.int 0))) pD (fun p => fD p.1) (xs := ps) fun p hp => ⟨_, rfl, by simp -implicitDefEqProofs [pD, fD]⟩
  have e3 : (ps.map fun p => fD p.1) = (ps.map (·.1)).map fD := by rw [List.map_map]; rfl
  rw [e3] at cm3
  have rk := rising_ok (S := S) h
  simp -implicitDefEqProofs [-List.map_map, isTy, fv, c3, wipeE, cm1, cm2, cm3, ne, rk]
theorem deed_is {d : Deed} (h : d.Ok) : zaR [.v d.d] S = some (.v (.bl true), S) := by
  unfold zaR bo_is_deed
  rw [zay (ss := [.v d.d]) (by simp) (by simp)]
  have emp : ∀ (w : Str) (r : List D), okN 60 (.tup (.str w :: r)) = true → gEq S (.v (.tup (.str w :: r))) (.v (.tup [])) = some (.v (.bl false)) := fun w r ok => by
    rw [gEqV ok (by simp [okN, okNs])]; simp
  have oks : ∀ fs : List Nat, okNs 58 (fs.map fD) = true := fun fs => by rw [fD_ints]; exact zbN _
  have okp : ∀ ps : List (Nat × Int), okNs 58 (ps.map pD) = true := fun ps => by
    induction ps with
    | nil => simp [okNs]
    | cons p ps ih => rw [List.map_cons, okNs, ih]; simp [pD, okN, okNs]
  cases d with
  | look fs =>
    have em := emp "look" [.tup (fs.map fD)] (by simp [okN, okNs, oks])
    simp -implicitDefEqProofs [Deed.d, isTy, em, rising_ok h]
  | put ps =>
    have em := emp "put" [.tup (ps.map pD)] (by simp [okN, okNs, okp])
    simp -implicitDefEqProofs [Deed.d, isTy, em, pairs_ok h.1 h.2]
  | add f w =>
    have em := emp "add" [.int (f : Nat), .int w] (by simp [okN, okNs])
    have b1 := zbO (S := S) (i := (f : Nat)) (b := 10) (by omega) (by have := h.1; omega)
    have b2 := zbO (S := S) (i := w) (b := 1000) h.2.1 h.2.2
    simp -implicitDefEqProofs [Deed.d, isTy, em, b1, b2]
  | move a b m =>
    obtain ⟨h1, h2, h3, h4⟩ := h
    have em := emp "move" [.int (a : Nat), .int (b : Nat), .int m] (by simp [okN, okNs])
    have b1 := zbO (S := S) (i := (a : Nat)) (b := 10) (by omega) (by omega)
    have b2 := zbO (S := S) (i := (b : Nat)) (b := 10) (by omega) (by omega)
    have b3 := zbO (S := S) (i := m) (b := 1000) h4.1 h4.2
    have hab : ¬ (a : Int) = (b : Int) := by omega
    simp -implicitDefEqProofs [Deed.d, isTy, em, b1, b2, b3, hab]
theorem plain_is {d : Deed} (h : d.Ok) : zbr [.v d.d] S = some (.v (.bl true), S) := by
  unfold zbr bo_is_plain
  rw [zay (ss := [.v d.d]) (by simp) (by simp)]
  have di := deed_is (S := S) h
  cases d with
  | look fs => simp [Deed.d] at di ⊢; simp -implicitDefEqProofs [di]
  | put fs => simp [Deed.d] at di ⊢; simp -implicitDefEqProofs [di]
  | add f w => simp [Deed.d] at di ⊢; simp -implicitDefEqProofs [di]
  | move a b m => simp [Deed.d] at di ⊢; simp -implicitDefEqProofs [di]
theorem answer_is {d : Deed} {a : D} (ok : d.Ok) (h : Ans d a) : zaI [.v d.d, .v a] S = some (.v (.bl true), S) := by
  unfold zaI zbB
  rw [zay (ss := [.v d.d, .v a]) (by simp) (by simp)]
  have eq : gEq S (.l []) (.l []) = some (.v (.bl true)) := by rw [gEq_ll (by simp [okNs]) (by simp [okNs])]; simp
  have tup : ∀ (ns : List Int), (∀ n ∈ ns, Wo n) → compF (tgName 2) (eUn gNot (eCall zaj [] [eVar 2, eLit (.int 1000)])) (eVar 2) .no [.v d.d, .v (.tup (ns.map D.int)), .no] (ns.map D.int) S = some ([], S) := by
    intro ns hw
    exact comp_none (S := S) (ρ := [.v d.d, .v (.tup (ns.map D.int)), .no]) (tg := tgName 2) (ft := eUn gNot (eCall zaj [] [eVar 2, eLit (.int 1000)])) (fe := eVar 2) D.int (xs := ns) fun n hn => ⟨_, rfl, by
      have := hw n hn
      simp -implicitDefEqProofs [zbO this.1 this.2]⟩
  have fv : ∀ ns : List Int, fVar 1 [.v d.d, .v (.tup (ns.map D.int)), .no] S = some ((ns.map D.int, .no, true), S) := fun ns => fVar_t rfl
  cases d with
  | look fs =>
    obtain ⟨ns, rfl, h1, h2⟩ := h
    have c3 : ns.length ≤ cap := by rw [h1]; exact Nat.le_trans ok.2.2.1 (by decide)
    have t1 := tup ns h2
    have f1 := fv ns
    simp [Deed.d] at t1 f1 ⊢
    simp -implicitDefEqProofs [isTy, h1, f1, c3, wipeE, t1, eq]
    rw [if_pos (by rw [← h1]; exact c3)]
    simp -implicitDefEqProofs [eq]
  | put ps =>
    obtain ⟨ns, rfl, h1, h2⟩ := h
    have c3 : ns.length ≤ cap := by
      have := ok.1.2.2.1
      rw [List.length_map] at this
      rw [h1]; exact Nat.le_trans this (by decide)
    have t1 := tup ns h2
    have f1 := fv ns
    simp [Deed.d] at t1 f1 ⊢
    simp -implicitDefEqProofs [isTy, h1, f1, c3, wipeE, t1, eq]
    rw [if_pos (by rw [← h1]; exact c3)]
    simp -implicitDefEqProofs [eq]
  | add f w =>
    obtain ⟨n, rfl, h1, h2⟩ := h
    simp -implicitDefEqProofs [Deed.d, zbO h1 h2]
  | move a b m =>
    obtain ⟨k, rfl⟩ := h
    simp -implicitDefEqProofs [Deed.d, isTy]
theorem row_is {m : Int} {r : Row} (h : r.Ok m) (hm : m < 10000) : zaV [.v r.d] S = some (.v (.bl true), S) := by
  unfold zaV bo_is_row
  rw [zay (ss := [.v r.d]) (by simp) (by simp)]
  obtain ⟨h1, h2, h3, h4, h5⟩ := h
  have b1 := zbO (S := S) (i := (r.u : Nat)) (b := 100) (by omega) (by omega)
  have b2 := zbO (S := S) (i := r.b) (b := 10000) h3 (by omega)
  have pl := plain_is (S := S) h2
  cases q : r.e with
  | none =>
    simp -implicitDefEqProofs [Row.d, Row.end_, Row.ans, q, isTy, pl, b1, b2]
  | some p =>
    rw [q] at h5
    simp only at h5
    have b3 := zbO (S := S) (i := p.1) (b := 10000) (by omega) (by omega)
    have an := answer_is (S := S) h2 h5.2.2
    simp -implicitDefEqProofs [Row.d, Row.end_, Row.ans, q, isTy, pl, b1, b2, b3, an, h5.1]
def Nt (kvs : List (D × D)) (done_ : List Row) : Prop := (∀ p ∈ kvs, ∃ (u : Nat) (l : Int), p = (.int (u : Nat), .int l) ∧ ∃ r ∈ done_, r.u = u ∧ r.last = l) ∧ kvs.length ≤ done_.length
theorem need_loop {A : Sl} {m : Int} (hm : m < 10000) : ∀ (rest done_ : List Row) (kvs : List (D × D)) (x y : Sl), Hist m (done_ ++ rest) → done_.length + rest.length ≤ 12 → Nt kvs done_ →
    ∃ ρ', loopF (tgTup [2, 3]) zaX .no (enumD done_.length (rest.map Row.d)) [A, .d .K kvs, x, y] S = some (.next ρ' S)
  | [], done_, kvs, x, y, _, _, _ => ⟨_, rfl⟩
  | r :: rest, done_, kvs, x, y, hh, hl, hn => by
    have hr : r.Ok m := hh.1 r (by simp)
    have ri := row_is (S := S) hr hm
    have hlook : ∀ d, dLook kvs (.int (r.u : Nat)) = some d → ∃ l, d = .int l ∧ l < r.b := by
      intro d e
      unfold dLook at e
      cases q : kvs.find? (fun p => decide (p.1 = D.int (r.u : Nat))) with
      | none => rw [q] at e; cases e
      | some p =>
        rw [q] at e
        cases e
        obtain ⟨u, l, rfl, r', hr', h1, h2⟩ := hn.1 p (List.mem_of_find?_eq_some q)
        have hp := List.find?_some q
        simp at hp
        refine ⟨l, rfl, ?_⟩
        have pw := (List.pairwise_append.mp hh.2).2.2 r' hr' r (by simp)
        rw [h2] at pw
        exact pw (by omega)
    obtain ⟨kvs', hput, hn'⟩ : ∃ kvs', putSl (.d .K kvs) (.int (r.u : Nat)) (.int r.last) = some (.d .K kvs') ∧ Nt kvs' (done_ ++ [r]) := by
      refine ⟨dPut kvs (.int (r.u : Nat)) (.int r.last), ?_, ?_, ?_⟩
      · have c : kvs.length < cap := Nat.lt_of_le_of_lt (Nat.le_trans hn.2 (show done_.length ≤ 12 by omega)) (by decide)
        simp [putSl, keyOk, key1, c]
      · intro p hp
        unfold dPut at hp
        split at hp
        · obtain ⟨q, hq, rfl⟩ := List.mem_map.mp hp
          split
          · rename_i c
            exact ⟨r.u, r.last, by rw [c], r, by simp, rfl, rfl⟩
          · obtain ⟨u, l, e, r', hr', h1⟩ := hn.1 q hq
            exact ⟨u, l, e, r', by simp [hr'], h1⟩
        · rcases List.mem_append.mp hp with hp | hp
          · obtain ⟨u, l, e, r', hr', h1⟩ := hn.1 p hp
            exact ⟨u, l, e, r', by simp [hr'], h1⟩
          · rw [List.mem_singleton.mp hp]
            exact ⟨r.u, r.last, rfl, r, by simp, rfl, rfl⟩
      · have := hn.2
        unfold dPut
        split
        · rw [List.length_map, List.length_append]; simp; omega
        · rw [List.length_append, List.length_append]; simp; omega
    obtain ⟨ρ', ih⟩ := need_loop (A := A) hm rest (done_ ++ [r]) kvs' (.v (.int (done_.length : Nat))) (.v r.d) (by rw [List.append_assoc]; exact hh) (by rw [List.length_append]; simp at hl ⊢; omega) hn'
    refine ⟨ρ', ?_⟩
    rw [List.map_cons, enumD, loopF_c]
    have hlt : ¬ (12 : Int) ≤ (done_.length : Nat) := by simp at hl; omega
    have look : ∀ (P : Prop) [Decidable P], True := fun _ _ => trivial
    have body : zaX [A, .d .K kvs, .v (.int (done_.length : Nat)), .v r.d] S = some (.next [A, .d .K kvs', .v (.int (done_.length : Nat)), .v r.d] S) := by
      unfold zaX
      have inn : gIn S (.v (.int (r.u : Nat))) (.bd .K kvs) = some (.v (.bl (dLook kvs (.int (r.u : Nat))).isSome)) := by
        simp [gIn, inR, R.dicR, keyOk, key1]
      have ixx : gIx S (.bd .K kvs) (.v (.int (r.u : Nat))) = (dLook kvs (.int (r.u : Nat))).map R.v := by
        simp [gIx, R.dicR, keyOk, key1]
      have r0 : gIx S (.v r.d) (.v (.int 0)) = some (.v (.int (r.u : Nat))) := by simp [Row.d]
      have r2 : gIx S (.v r.d) (.v (.int 2)) = some (.v (.int r.b)) := by simp [Row.d]
      have r3 : gIx S (.v r.d) (.v (.int 3)) = some (.v r.end_) := by simp [Row.d]
      have lst : (eIf (eUn gIsN (eBin gIx (eVar 3) (eLit (.int 3)))) (eBin gIx (eVar 3) (eLit (.int 2))) (eBin gIx (eVar 3) (eLit (.int 3)))) [A, .d .K kvs, .v (.int (done_.length : Nat)), .v r.d] S = some (.v (.int r.last), S) := by
        cases q : r.e with
        | none => simp -implicitDefEqProofs [r2, r3, Row.end_, Row.last, q]
        | some p => simp -implicitDefEqProofs [r2, r3, Row.end_, Row.last, q]
      cases q : dLook kvs (.int (r.u : Nat)) with
      | none => simp -implicitDefEqProofs [-eIf_, hlt, ri, r0, inn, q, lst, hput]
      | some d =>
        obtain ⟨l, rfl, hl2⟩ := hlook d q
        have hnl : ¬ r.b ≤ l := by omega
        simp -implicitDefEqProofs [-eIf_, hlt, ri, r0, r2, inn, ixx, q, hnl, lst, hput]
    rw [List.length_append] at ih
    simp -implicitDefEqProofs [body] at ih ⊢
    exact ih
theorem need_ok {m : Int} {rows : List Row} (hm : m < 10000) (h : Hist m rows) (hl : rows.length ≤ 12) : zaE [.b (rows.map Row.d)] S = some (.v .non, S) := by
  unfold zaE bo_need_history
  rw [zay (ss := [.b (rows.map Row.d)]) (by simp) (by simp)]
  obtain ⟨ρ', e⟩ := need_loop (S := S) (A := .b (rows.map Row.d)) hm rows [] [] .no .no (by simpa using h) (by simpa using hl) ⟨by simp, by simp⟩
  have fe : fEnumV 0 [.b (rows.map Row.d), .d .K [], .no, .no] S = some ((enumD 0 (rows.map Row.d), .no, true), S) := by
    simp [fEnumV, R.src]
  simp -implicitDefEqProofs [eDNew, fe] at e ⊢
  simp -implicitDefEqProofs [e]
end
end Ev
namespace Ev
open PySem L2
section
variable {S : Store}
theorem ans_okN {d : Deed} {a : D} (h : Ans d a) : okN 60 a = true := by
  cases d with
  | look fs => obtain ⟨ns, rfl, _⟩ := h; rw [okN]; exact zbN ns
  | put ps => obtain ⟨ns, rfl, _⟩ := h; rw [okN]; exact zbN ns
  | add f w => obtain ⟨n, rfl, _⟩ := h; rfl
  | move x y m => obtain ⟨b, rfl⟩ := h; rfl
theorem map_int_inj {a b : List Int} : (a.map D.int = b.map D.int) ↔ a = b := List.map_inj_right (fun x y e => by injection e)
theorem ans_eq {d : Deed} {a b : D} (h : Ans d a) (h' : Ans d b) : eqD a b = decide (a = b) := by
  cases d with
  | look fs =>
    obtain ⟨ns, rfl, _⟩ := h
    obtain ⟨ms, rfl, _⟩ := h'
    simp [eqDs_ints, map_int_inj]
  | put ps =>
    obtain ⟨ns, rfl, _⟩ := h
    obtain ⟨ms, rfl, _⟩ := h'
    simp [eqDs_ints, map_int_inj]
  | add f w => obtain ⟨n, rfl, _⟩ := h; obtain ⟨m, rfl, _⟩ := h'; simp
  | move x y m => obtain ⟨p, rfl⟩ := h; obtain ⟨q, rfl⟩ := h'; simp
@[simp] theorem gEqB {a b : Bool} : gEq S (.v (.bl a)) (.v (.bl b)) = some (.v (.bl (decide (a = b)))) := by
  rw [gEqV rfl rfl, eqD_bl]
@[simp] theorem gNeB {a b : Bool} : gNe S (.v (.bl a)) (.v (.bl b)) = some (.v (.bl (!decide (a = b)))) := by
  rw [gNeV rfl rfl, eqD_bl]
theorem like_ok {d : Deed} {a b : D} (h : Ans d a) (h' : Ans d b) : ev_like [.v a, .v b] S = some (.v (.bl (decide (a = b))), S) := by
  unfold ev_like bo_like
  rw [zay (ss := [.v a, .v b]) (by simp) (by simp)]
  have e1 := gEqV (S := S) (ans_okN h) (ans_okN h')
  rw [ans_eq h h'] at e1
  have e2 : ∃ k : Bool, (R.v a).kd S = (R.v b).kd S ∧ ((R.v a).kd S).isSome := by
    cases d with
    | look fs => obtain ⟨ns, rfl, _⟩ := h; obtain ⟨ms, rfl, _⟩ := h'; exact ⟨true, by simp⟩
    | put fs => obtain ⟨ns, rfl, _⟩ := h; obtain ⟨ms, rfl, _⟩ := h'; exact ⟨true, by simp⟩
    | add f w => obtain ⟨n, rfl, _⟩ := h; obtain ⟨m, rfl, _⟩ := h'; exact ⟨true, by simp⟩
    | move x y m => obtain ⟨p, rfl⟩ := h; obtain ⟨q, rfl⟩ := h'; exact ⟨true, by simp⟩
  obtain ⟨_, e2, e3⟩ := e2
  obtain ⟨k, hk⟩ := Option.isSome_iff_exists.mp e3
  have hk' := e2 ▸ hk
  by_cases hab : a = b
  · subst hab
    simp -implicitDefEqProofs [e1, hk]
  · simp -implicitDefEqProofs [e1, hab]
theorem rangeD_nat {n : Nat} : rangeD (n : Nat) = (List.range n).map fD := by
  unfold rangeD
  rw [Int.toNat_natCast]
  rfl
end
end Ev
namespace Ev
open PySem L2
instance : Inhabited Row := ⟨⟨0, .look [], 0, none⟩⟩
def rwA (R : List Row) (i : Nat) : Row := R.getD i default
def Row.endI (r : Row) : Int := match r.e with
  | some p => p.1
  | none => 0
def hasE (R : List Row) (i : Nat) : Bool := (rwA R i).e.isSome
def endsOf (R : List Row) (left : List Nat) : List Int := (left.filter (hasE R)).map fun i => (rwA R i).endI
def nextOf (R : List Row) (left : List Nat) : List Nat := left.filter fun i => (endsOf R left).all fun e => !decide (e < (rwA R i).b)
def tN (left : List Nat) : D := .tup (left.map fD)
def keyN (left : List Nat) (ws : List Int) : D := .tup [tN left, tW ws]
section
variable {S : Store} {R : List Row}
theorem ixRow {i : Nat} (h : i < R.length) : gIx S (.b (R.map Row.d)) (.v (.int (i : Nat))) = some (.v (rwA R i).d) := by
  rw [gIx_b, atI_nat, List.getElem?_map]
  simp [rwA, h]
theorem row_1 {r : Row} : gIx S (.v r.d) (.v (.int 1)) = some (.v r.dd.d) := by simp [Row.d]
theorem row_2 {r : Row} : gIx S (.v r.d) (.v (.int 2)) = some (.v (.int r.b)) := by simp [Row.d]
theorem row_3 {r : Row} : gIx S (.v r.d) (.v (.int 3)) = some (.v r.end_) := by simp [Row.d]
theorem row_4 {r : Row} : gIx S (.v r.d) (.v (.int 4)) = some (.v r.ans) := by simp [Row.d]
theorem end_non {r : Row} : decide (r.end_ = .non) = !r.e.isSome := by
  unfold Row.end_
  cases r.e <;> simp
theorem end_int {r : Row} (h : r.e.isSome = true) : r.end_ = .int r.endI := by
  unfold Row.end_ Row.endI
  cases q : r.e with
  | none => rw [q] at h; cases h
  | some p => rfl
theorem ends_comp {ρ : Env} {k : Nat} {left : List Nat} (h0 : ρ[0]? = some (.b (R.map Row.d))) (hk : 0 < k) (hk2 : k < ρ.length) (hl : ∀ i ∈ left, i < R.length) :
    compF (tgName k) (eUn gNotN (eBin gIx (eBin gIx (eVar 0) (eVar k)) (eLit (.int 3)))) (eBin gIx (eBin gIx (eVar 0) (eVar k)) (eLit (.int 3))) .no ρ (left.map fD) S = some ((endsOf R left).map D.int, S) := by
  rw [zbd (S := S) fD (hasE R) (fun i => .int (rwA R i).endI) fun i hi => ⟨_, rfl, ?_, fun hp => ?_⟩]
  · unfold endsOf
    rw [List.map_map]
    rfl
  · have a0 : (ρ.set k (.v (.int (i : Nat))))[0]? = some (.b (R.map Row.d)) := by rw [List.getElem?_set_ne (by omega)]; exact h0
    have ak : (ρ.set k (.v (.int (i : Nat))))[k]? = some (.v (.int (i : Nat))) := by rw [List.getElem?_set_self hk2]
    simp -implicitDefEqProofs only [fD, eUn_, eBin_, eVar_, eLit_, a0, ak, rdSl_b, rdSl_v, Option.map_some, zaG, ixRow (hl i hi), row_3, gNotN_, isNone_v, end_non, Bool.not_not]
    rfl
  · have a0 : (ρ.set k (.v (.int (i : Nat))))[0]? = some (.b (R.map Row.d)) := by rw [List.getElem?_set_ne (by omega)]; exact h0
    have ak : (ρ.set k (.v (.int (i : Nat))))[k]? = some (.v (.int (i : Nat))) := by rw [List.getElem?_set_self hk2]
    simp -implicitDefEqProofs only [fD, eBin_, eVar_, eLit_, a0, ak, rdSl_b, rdSl_v, Option.map_some, zaG, ixRow (hl i hi), row_3, end_int hp]
theorem filter_nil {xs : List Int} {p : Int → Bool} : (xs.filter p).isEmpty = xs.all fun x => !p x := by
  induction xs with
  | nil => rfl
  | cons x xs ih =>
    rw [List.filter_cons, List.all_cons]
    cases p x with
    | false => simpa using ih
    | true => simp
theorem next_ok {left : List Nat} (hl : ∀ i ∈ left, i < R.length) (hc : left.length ≤ 1000) : zbg [.b (R.map Row.d), .v (tN left)] S = some (.l ((nextOf R left).map fD), S) := by
  unfold zbg bo_may_be_next
  rw [zay (ss := [.b (R.map Row.d), .v (tN left)]) (by simp) (by simp)]
  have c1 : left.length ≤ cap := Nat.le_trans hc (by decide)
  have c2 : (endsOf R left).length ≤ cap := by
    unfold endsOf
    rw [List.length_map]
    exact Nat.le_trans (List.length_filter_le _ _) c1
  have f1 : fVar 1 [.b (R.map Row.d), .v (tN left), .no, .no, .no] S = some ((left.map fD, .no, true), S) := fVar_t rfl
  have f2 : fVar 1 [.b (R.map Row.d), .v (tN left), .l ((endsOf R left).map D.int), .no, .no] S = some ((left.map fD, .no, true), S) := fVar_t rfl
  have ec := ends_comp (S := S) (R := R) (ρ := [.b (R.map Row.d), .v (tN left), .no, .no, .no]) (k := 3) rfl (by decide) (by simp) hl
  have cm := zbd (S := S) (ρ := [.b (R.map Row.d), .v (tN left), .l ((endsOf R left).map D.int), .no, .no]) (tg := tgName 3) (ft := eBin gEq (eComp (fVar 2) (tgName 4) [4] (eBin gLt (eVar 4) (eBin gIx (eBin gIx (eVar 0) (eVar 3)) (eLit (.int 2)))) (eVar 4)) (eLst [])) (fe := eVar 3) fD (fun i => (endsOf R left).all fun e => !decide (e < (rwA R i).b)) fD (xs := left) fun i hi => ⟨_, rfl, by
    have f3 : fVar 2 [.b (R.map Row.d), .v (tN left), .l ((endsOf R left).map D.int), .v (fD i), .no] S = some (((endsOf R left).map D.int, .no, false), S) := fVar_l rfl
    have c4 := zbd (S := S) (ρ := [.b (R.map Row.d), .v (tN left), .l ((endsOf R left).map D.int), .v (fD i), .no]) (tg := tgName 4) (ft := eBin gLt (eVar 4) (eBin gIx (eBin gIx (eVar 0) (eVar 3)) (eLit (.int 2)))) (fe := eVar 4) D.int (fun e => decide (e < (rwA R i).b)) D.int (xs := endsOf R left) fun e he => ⟨_, rfl, by simp -implicitDefEqProofs [fD, ixRow (hl i hi), row_2], fun _ => by simp⟩
    have eq : gEq S (.l (((endsOf R left).filter fun e => decide (e < (rwA R i).b)).map D.int)) (.l []) = some (.v (.bl ((endsOf R left).all fun e => !decide (e < (rwA R i).b)))) := by
      rw [gEq_ll (zbN _) (by simp [okNs]), eqDs_nil_r, List.isEmpty_map, filter_nil]
    simp -implicitDefEqProofs [f3, c2, wipeE, c4, eq], fun _ => by simp⟩
  simp -implicitDefEqProofs [f1, c1, wipeE, ec, f2, cm]
  rfl
abbrev Kvs := List (D × D)
def tryL (R : List Row) (rec : List Nat → List Int → Kvs → Option (List Nat) × Kvs) (left : List Nat) (ws : List Int) : List Nat → Kvs → Option (List Nat) × Kvs
  | [], kvs => (none, kvs)
  | i :: is, kvs =>
    if (rwA R i).e = none ∨ (rwA R i).ans = ((rwA R i).dd.run ws).1 then
      match rec (left.filter fun j => decide (j ≠ i)) ((rwA R i).dd.run ws).2 kvs with
      | (some o, kvs') => (some (i :: o), kvs')
      | (none, kvs') => tryL R rec left ws is kvs'
    else tryL R rec left ws is kvs
def srch (R : List Row) : Nat → List Nat → List Int → Kvs → Option (List Nat) × Kvs
  | 0, _, _, kvs => (none, kvs)
  | n + 1, left, ws, kvs =>
    if endsOf R left = [] then (some [], kvs)
    else if (dLook kvs (keyN left ws)).isSome then (none, kvs)
    else match tryL R (srch R n) left ws (nextOf R left) kvs with
      | (some o, kvs') => (some o, kvs')
      | (none, kvs') => (none, kvs' ++ [(keyN left ws, .bl true)])
def Adds (m : Nat) (kvs kvs' : Kvs) : Prop := ∃ ex : Kvs, kvs' = kvs ++ ex ∧ ∀ p ∈ ex, ∃ l w, p = (keyN l w, .bl true) ∧ l.length ≤ m
theorem Adds.refl {m : Nat} {kvs : Kvs} : Adds m kvs kvs := ⟨[], by simp, by simp⟩
theorem Adds.trans {m : Nat} {a b c : Kvs} (h : Adds m a b) (h' : Adds m b c) : Adds m a c := by
  obtain ⟨x, rfl, hx⟩ := h
  obtain ⟨y, rfl, hy⟩ := h'
  exact ⟨x ++ y, by simp, fun p hp => (List.mem_append.mp hp).elim (hx p) (hy p)⟩
theorem Adds.mono {m m' : Nat} {a b : Kvs} (h : Adds m a b) (hm : m ≤ m') : Adds m' a b := by
  obtain ⟨x, e, hx⟩ := h
  exact ⟨x, e, fun p hp => by
    obtain ⟨l, w, e, hl⟩ := hx p hp
    exact ⟨l, w, e, by omega⟩⟩
theorem Adds.len {m : Nat} {a b : Kvs} (h : Adds m a b) : a.length ≤ b.length := by
  obtain ⟨x, rfl, _⟩ := h
  simp
theorem filter_ne_len {left : List Nat} {i : Nat} (h : i ∈ left) : (left.filter fun j => decide (j ≠ i)).length < left.length := by
  induction left with
  | nil => cases h
  | cons a l ih =>
    rw [List.filter_cons]
    by_cases e : a = i
    · simp only [e, ne_eq, not_true_eq_false, decide_false, Bool.false_eq_true, if_false, List.length_cons]
      exact Nat.lt_succ_of_le (List.length_filter_le _ _)
    · simp only [ne_eq, e, not_false_eq_true, decide_true, if_true, List.length_cons]
      rcases List.mem_cons.mp h with rfl | h
      · exact absurd rfl e
      · exact Nat.succ_lt_succ (ih h)
theorem tryL_adds {rec : List Nat → List Int → Kvs → Option (List Nat) × Kvs} {left : List Nat} {ws : List Int} {m : Nat} (hrec : ∀ i ∈ left, ∀ w kvs, Adds m kvs (rec (left.filter fun j => decide (j ≠ i)) w kvs).2) : ∀ (is : List Nat) (kvs : Kvs), (∀ i ∈ is, i ∈ left) → Adds m kvs (tryL R rec left ws is kvs).2
  | [], kvs, _ => .refl
  | i :: is, kvs, h => by
    rw [tryL]
    have hi := h i (by simp)
    have ht := fun k => tryL_adds hrec (ws := ws) is k fun j hj => h j (by simp [hj])
    split
    · have hr := hrec i hi ((rwA R i).dd.run ws).2 kvs
      split
      · rename_i o kvs' e
        rw [e] at hr
        exact hr
      · rename_i kvs' e
        rw [e] at hr
        exact hr.trans (ht kvs')
    · exact ht kvs
theorem srch_adds : ∀ (n : Nat) (left : List Nat) (ws : List Int) (kvs : Kvs), Adds left.length kvs (srch R n left ws kvs).2
  | 0, _, _, _ => .refl
  | n + 1, left, ws, kvs => by
    rw [srch]
    split
    · exact .refl
    · split
      · exact .refl
      · have ht : Adds left.length kvs (tryL R (srch R n) left ws (nextOf R left) kvs).2 := tryL_adds (fun i hi w k => (srch_adds n _ w k).mono (Nat.le_of_lt (filter_ne_len hi))) _ _ fun i hi => (List.mem_filter.mp hi).1
        split
        · rename_i o kvs' e
          rw [e] at ht
          exact ht
        · rename_i kvs' e
          rw [e] at ht
          exact ht.trans ⟨[(keyN left ws, .bl true)], rfl, fun p hp => ⟨left, ws, List.mem_singleton.mp hp, Nat.le_refl _⟩⟩
theorem key_inj {l l' : List Nat} {w w' : List Int} (h : keyN l w = keyN l' w') : l.length = l'.length := by
  unfold keyN tN at h
  injection h with h
  injection h with h1 h2
  injection h1 with h1
  have := congrArg List.length h1
  simpa using this
theorem look_append {a b : Kvs} {k : D} : dLook (a ++ b) k = (dLook a k).or (dLook b k) := by
  unfold dLook
  rw [List.find?_append]
  cases a.find? (fun p => decide (p.1 = k)) <;> rfl
theorem look_adds {m : Nat} {kvs kvs' : Kvs} {left : List Nat} {ws : List Int} (h : Adds m kvs kvs') (hm : m < left.length) (hn : dLook kvs (keyN left ws) = none) : dLook kvs' (keyN left ws) = none := by
  obtain ⟨ex, rfl, hx⟩ := h
  rw [look_append, hn]
  show dLook ex (keyN left ws) = none
  unfold dLook
  cases q : ex.find? (fun p => decide (p.1 = keyN left ws)) with
  | none => rfl
  | some p =>
    exfalso
    obtain ⟨l, w, rfl, hl⟩ := hx p (List.mem_of_find?_eq_some q)
    have hp := List.find?_some q
    simp only [decide_eq_true_eq] at hp
    have := key_inj hp
    omega
theorem key_ok {left : List Nat} {ws : List Int} : keyOk .N (keyN left ws) = true := by
  show (nest1 [tN left, tW ws]).isSome = true
  unfold tN tW
  rw [fD_ints]
  simp only [nest1, ints1_map]
  rfl
theorem rest_comp {ρ : Env} {k c i : Nat} {left : List Nat} (h0 : ρ[c]? = some (.v (.int (i : Nat)))) (hk : c ≠ k) (hk2 : k < ρ.length) :
    compF (tgName k) (eBin gNe (eVar k) (eVar c)) (eVar k) .no ρ (left.map fD) S = some ((left.filter fun j => decide (j ≠ i)).map fD, S) := by
  refine zbd (S := S) fD (fun j => decide (j ≠ i)) fD fun j hj => ⟨_, rfl, ?_, fun _ => ?_⟩
  · have a0 : (ρ.set k (.v (fD j)))[c]? = some (.v (.int (i : Nat))) := by rw [List.getElem?_set_ne (Ne.symm hk)]; exact h0
    have ak : (ρ.set k (.v (fD j)))[k]? = some (.v (fD j)) := by rw [List.getElem?_set_self hk2]
    have e : (decide ((j : Int) = (i : Int))) = decide (j = i) := by
      by_cases h : j = i
      · subst h; simp
      · rw [decide_eq_false h, decide_eq_false (by omega)]
    simp -implicitDefEqProofs only [eBin_, eVar_, a0, ak, rdSl_v, Option.map_some, zaG]
    simp -implicitDefEqProofs only [fD, gNeI, Option.map_some, e]
    by_cases h : j = i <;> simp [h]
  · have ak : (ρ.set k (.v (fD j)))[k]? = some (.v (fD j)) := by rw [List.getElem?_set_self hk2]
    simp -implicitDefEqProofs only [eVar_, ak, rdSl_v, Option.map_some]
def resR : Option (List Nat) → Ev.R
  | none => .v .non
  | some o => .l (o.map fD)
def OrderP (R : List Row) (n : Nat) (run : Ru) : Prop := ∀ (S : Store) (h : Nat) (left : List Nat) (ws : List Int) (kvs : Kvs), left.length < n → (∀ i ∈ left, i < R.length) → Ws ws → S[h]? = some (.dic .N kvs) → (srch R n left ws kvs).2.length ≤ cap →
  run [.b (R.map Row.d), .v (tN left), .v (tW ws), .v (.ob h)] S = some (resR (srch R n left ws kvs).1, S.set h (.dic .N (srch R n left ws kvs).2))
theorem srch_len : ∀ (n : Nat) (left : List Nat) (ws : List Int) (kvs : Kvs) (o : List Nat), (srch R n left ws kvs).1 = some o → o.length ≤ n
  | 0, _, _, _, _, h => by cases h
  | n + 1, left, ws, kvs, o, h => by
    have tl : ∀ (is : List Nat) (kvs : Kvs) (o : List Nat), (tryL R (srch R n) left ws is kvs).1 = some o → o.length ≤ n + 1 := by
      intro is
      induction is with
      | nil => intro kvs o h; cases h
      | cons i is ih =>
        intro kvs o h
        rw [tryL] at h
        split at h
        · split at h
          · rename_i o' kvs' e
            cases h
            have := srch_len n _ _ kvs o' (by rw [e])
            simp
            omega
          · exact ih _ _ h
        · exact ih _ _ h
    rw [srch] at h
    split at h
    · cases h; simp
    · split at h
      · cases h
      · split at h
        · rename_i o' kvs' e
          cases h
          exact tl _ kvs o (by rw [e])
        · cases h
def nextO (R : List Row) (left : List Nat) (ws : List Int) (h i : Nat) (a : D) (w' : List Int) (A7 A8 A9 : Sl) : Env := [.b (R.map Row.d), .v (tN left), .v (tW ws), .v (.ob h), .v (fD i), .v a, .v (tW w'), A7, A8, A9]
theorem order_body {run : Ru} {rest left : List Nat} {ws w' : List Int} {i h : Nat} {a : D} {t : Bool} {dd : Deed} {o : Option (List Nat)} {S' : Store} {A5 A6 A7 A8 A9 : Sl} (hiR : i < R.length) (hdd : (rwA R i).dd = dd)
    (dn : ev_done [.v (tW ws), .v dd.d] S = some (.v (.tup [a, tW w']), S))
    (test : ∀ A6' A7' A8' A9' : Sl, (eOr (eUn gIsN (eBin gIx (eBin gIx (eVar 0) (eVar 4)) (eLit (.int 3)))) (eCall ev_like [] [eBin gIx (eBin gIx (eVar 0) (eVar 4)) (eLit (.int 4)), eVar 5])) [.b (R.map Row.d), .v (tN left), .v (tW ws), .v (.ob h), .v (fD i), .v a, A6', A7', A8', A9'] S = some (.v (.bl t), S))
    (restc : ∀ A5' A6' A7' A8' : Sl, compF (tgName 9) (eBin gNe (eVar 9) (eVar 4)) (eVar 9) .no [.b (R.map Row.d), .v (tN left), .v (tW ws), .v (.ob h), .v (fD i), A5', A6', A7', A8', .no] (left.map fD) S = some (rest.map fD, S))
    (c1 : left.length ≤ cap) (oc : ∀ x, o = some x → 1 + x.length ≤ cap)
    (recc : t = true → run [.b (R.map Row.d), .v (tN rest), .v (tW w'), .v (.ob h)] S = some (resR o, S')) :
    bd_order_of_1 run [.b (R.map Row.d), .v (tN left), .v (tW ws), .v (.ob h), .v (fD i), A5, A6, A7, A8, A9] S = if t then (match o with
      | some x => some (.ret (.l (fD i :: x.map fD)) S')
      | none => some (.next (nextO R left ws h i a w' (.v (tN rest)) (.v .non) A9) S')) else some (.next (nextO R left ws h i a w' A7 A8 A9) S) := by
  have ix1 : gIx S (.b (R.map Row.d)) (.v (fD i)) = some (.v (rwA R i).d) := ixRow hiR
  have fv := fun (A5' A6' A7' A8' A9' : Sl) => fVar_t (S := S) (ρ := [.b (R.map Row.d), .v (tN left), .v (tW ws), .v (.ob h), .v (fD i), A5', A6', A7', A8', A9']) (i := 1) (xs := left.map fD) rfl
  have r1 : gIx S (.v (rwA R i).d) (.v (.int 1)) = some (.v dd.d) := by rw [row_1, hdd]
  have te : (eBlt gTuple [eComp (fVar 1) (tgName 9) [9] (eBin gNe (eVar 9) (eVar 4)) (eVar 9)]) [.b (R.map Row.d), .v (tN left), .v (tW ws), .v (.ob h), .v (fD i), .v a, .v (tW w'), A7, A8, A9] S = some (.v (tN rest), S) := by
    simp -implicitDefEqProofs [fv, c1, wipeE, restc]
    rfl
  unfold bd_order_of_1 nextO
  cases t with
  | false => simp -implicitDefEqProofs [-eOr_, ix1, r1, dn, test]
  | true =>
    have recc := recc rfl
    cases o with
    | none => simp -implicitDefEqProofs [-eOr_, -eBlt_, ix1, r1, dn, test, te, recc, resR]
    | some x =>
      have oc := oc x rfl
      have cat : gAdd S' (.l [fD i]) (.b (x.map fD)) = some (.l (fD i :: x.map fD)) := by
        show Ev.R.cat S' (.l [fD i]) (.b (x.map fD)) = _
        unfold Ev.R.cat
        simp only [Ev.R.tlst, List.length_cons, List.length_nil, List.length_map, Nat.zero_add, if_pos oc]
        rfl
      simp -implicitDefEqProofs [-eOr_, -eBlt_, ix1, r1, dn, test, te, recc, resR, cat]
theorem set_same {h : Nat} {o : Ob} (hS : S[h]? = some o) : S.set h o = S := by
  have q := (List.getElem?_eq_some_iff.mp hS).2
  rw [← q]
  simp
theorem order_loop {m : Int} {n : Nat} {run : Ru} {h : Nat} {left : List Nat} {ws : List Int} (hR : ∀ r ∈ R, r.Ok m) (ih : OrderP R n run) (hn : left.length < n + 1) (hn2 : n ≤ 1000) (hl : ∀ i ∈ left, i < R.length) (hw : Ws ws) : ∀ (is : List Nat) (S : Store) (kvs : Kvs) (A4 A5 A6 A7 A8 A9 : Sl), (∀ i ∈ is, i ∈ left) → S[h]? = some (.dic .N kvs) → (tryL R (srch R n) left ws is kvs).2.length ≤ cap →
    match tryL R (srch R n) left ws is kvs with
    | (some o, kvs') => loopF (tgName 4) (bd_order_of_1 run) .no (is.map fD) [.b (R.map Row.d), .v (tN left), .v (tW ws), .v (.ob h), A4, A5, A6, A7, A8, A9] S = some (.ret (.l (o.map fD)) (S.set h (.dic .N kvs')))
    | (none, kvs') => ∃ B4 B5 B6 B7 B8 B9, loopF (tgName 4) (bd_order_of_1 run) .no (is.map fD) [.b (R.map Row.d), .v (tN left), .v (tW ws), .v (.ob h), A4, A5, A6, A7, A8, A9] S = some (.next [.b (R.map Row.d), .v (tN left), .v (tW ws), .v (.ob h), B4, B5, B6, B7, B8, B9] (S.set h (.dic .N kvs')))
  | [], S, kvs, A4, A5, A6, A7, A8, A9, _, hS, _ => by
    show ∃ B4 B5 B6 B7 B8 B9, _
    rw [set_same hS]
    exact ⟨A4, A5, A6, A7, A8, A9, rfl⟩
  | i :: is, S, kvs, A4, A5, A6, A7, A8, A9, his, hS, hcap => by
    have hi := his i (by simp)
    have his' : ∀ j ∈ is, j ∈ left := fun j hj => his j (by simp [hj])
    have hiR := hl i hi
    have hr : (rwA R i).Ok m := hR _ (by simp [rwA, hiR])
    have hdd := hr.2.1
    have dn := done_ok (S := S) hw.1 hdd
    have rk := run_ok hw hdd
    have hlt : h < S.length := (List.getElem?_eq_some_iff.mp hS).1
    have c1 : left.length ≤ cap := Nat.le_trans (show left.length ≤ 1001 by omega) (by decide)
    rw [List.map_cons, loopF_c]
    have test : ∀ A6' A7' A8' A9' : Sl, (eOr (eUn gIsN (eBin gIx (eBin gIx (eVar 0) (eVar 4)) (eLit (.int 3)))) (eCall ev_like [] [eBin gIx (eBin gIx (eVar 0) (eVar 4)) (eLit (.int 4)), eVar 5])) [.b (R.map Row.d), .v (tN left), .v (tW ws), .v (.ob h), .v (fD i), .v ((rwA R i).dd.run ws).1, A6', A7', A8', A9'] S = some (.v (.bl (decide ((rwA R i).e = none ∨ (rwA R i).ans = ((rwA R i).dd.run ws).1))), S) := by
      intro A6' A7' A8' A9'
      cases q : (rwA R i).e with
      | none => simp -implicitDefEqProofs [fD, ixRow hiR, row_3, Row.end_, q]
      | some p =>
        have h5 := hr.2.2.2.2
        rw [q] at h5
        simp only at h5
        have lk := like_ok (S := S) h5.2.2 rk.1
        have ea : (rwA R i).ans = p.2 := by unfold Row.ans; rw [q]
        simp -implicitDefEqProofs [fD, ixRow hiR, row_3, row_4, Row.end_, q, ea, lk]
    have restc := fun (A5' A6' A7' A8' : Sl) => rest_comp (S := S) (ρ := [.b (R.map Row.d), .v (tN left), .v (tW ws), .v (.ob h), .v (fD i), A5', A6', A7', A8', .no]) (k := 9) (c := 4) (i := i) (left := left) rfl (by decide) (by simp)
    rw [tryL] at hcap ⊢
    have tg : tgName 4 (fD i) [.b (R.map Row.d), .v (tN left), .v (tW ws), .v (.ob h), A4, A5, A6, A7, A8, A9] = some [.b (R.map Row.d), .v (tN left), .v (tW ws), .v (.ob h), .v (fD i), A5, A6, A7, A8, A9] := rfl
    rw [tg, Option.bind_some]
    by_cases ht : (rwA R i).e = none ∨ (rwA R i).ans = ((rwA R i).dd.run ws).1
    · rw [if_pos ht] at hcap ⊢
      rw [decide_eq_true ht] at test
      have hlen := filter_ne_len hi
      have sub : ∀ j ∈ left.filter (fun j => decide (j ≠ i)), j < R.length := fun j hj => hl j (List.mem_filter.mp hj).1
      have recc := ih S h (left.filter fun j => decide (j ≠ i)) ((rwA R i).dd.run ws).2 kvs (by omega) sub rk.2 hS
      have ol := srch_len (R := R) n (left.filter fun j => decide (j ≠ i)) ((rwA R i).dd.run ws).2 kvs
      generalize left.filter (fun j => decide (j ≠ i)) = rest at *
      cases q : srch R n rest ((rwA R i).dd.run ws).2 kvs with
      | mk o kvs1 =>
        rw [q] at recc hcap ol
        cases o with
        | some o =>
          simp only at hcap ⊢
          have recc := recc hcap
          have oc : ∀ x, some o = some x → 1 + x.length ≤ cap := fun x e => by
            have := ol x e
            exact Nat.le_trans (show 1 + x.length ≤ 1001 by omega) (by decide)
          rw [order_body (o := some o) (t := true) hiR rfl dn test restc c1 oc fun _ => recc]
          rfl
        | none =>
          simp only at hcap ⊢
          have add2 : Adds left.length kvs1 (tryL R (srch R n) left ws is kvs1).2 := tryL_adds (fun i hi w k => (srch_adds n _ w k).mono (Nat.le_of_lt (filter_ne_len hi))) _ _ his'
          have recc := recc (Nat.le_trans add2.len hcap)
          rw [order_body (o := none) (t := true) hiR rfl dn test restc c1 (fun x e => by cases e) fun _ => recc]
          have hS1 : (S.set h (.dic .N kvs1))[h]? = some (.dic .N kvs1) := List.getElem?_set_self hlt
          have lp := order_loop hR ih hn hn2 hl hw is (S.set h (.dic .N kvs1)) kvs1 (.v (fD i)) (.v ((rwA R i).dd.run ws).1) (.v (tW ((rwA R i).dd.run ws).2)) (.v (tN rest)) (.v .non) A9 his' hS1 hcap
          simp only [if_true, stepL_x]
          unfold nextO
          cases q2 : tryL R (srch R n) left ws is kvs1 with
          | mk o2 kvs2 =>
            rw [q2] at lp
            cases o2 with
            | some o2 => simp only [List.set_set] at lp ⊢; exact lp
            | none => simp only [List.set_set] at lp ⊢; exact lp
    · rw [if_neg ht] at hcap ⊢
      rw [decide_eq_false ht] at test
      rw [order_body (o := none) (t := false) (S' := S) hiR rfl dn test restc c1 (fun x e => by cases e) fun z => by cases z]
      have lp := order_loop hR ih hn hn2 hl hw is S kvs (.v (fD i)) (.v ((rwA R i).dd.run ws).1) (.v (tW ((rwA R i).dd.run ws).2)) A7 A8 A9 his' hS hcap
      simp only [Bool.false_eq_true, if_false, stepL_x]
      unfold nextO
      exact lp
end
end Ev
namespace Ev
open PySem L2
section
variable {S : Store} {R : List Row}
theorem ends_nil {left : List Nat} : ((left.filter (hasE R)).isEmpty) = decide (endsOf R left = []) := by
  unfold endsOf
  cases left.filter (hasE R) <;> simp
theorem has_comp {ρ : Env} {k : Nat} {left : List Nat} (h0 : ρ[0]? = some (.b (R.map Row.d))) (hk : 0 < k) (hk2 : k < ρ.length) (hl : ∀ i ∈ left, i < R.length) :
    compF (tgName k) (eUn gNotN (eBin gIx (eBin gIx (eVar 0) (eVar k)) (eLit (.int 3)))) (eVar k) .no ρ (left.map fD) S = some ((left.filter (hasE R)).map fD, S) := by
  refine zbd (S := S) fD (hasE R) fD fun i hi => ⟨_, rfl, ?_, fun hp => ?_⟩
  · have a0 : (ρ.set k (.v (.int (i : Nat))))[0]? = some (.b (R.map Row.d)) := by rw [List.getElem?_set_ne (by omega)]; exact h0
    have ak : (ρ.set k (.v (.int (i : Nat))))[k]? = some (.v (.int (i : Nat))) := by rw [List.getElem?_set_self hk2]
    simp -implicitDefEqProofs only [fD, eUn_, eBin_, eVar_, eLit_, a0, ak, rdSl_b, rdSl_v, Option.map_some, zaG, ixRow (hl i hi), row_3, gNotN_, isNone_v, end_non, Bool.not_not]
    rfl
  · have ak : (ρ.set k (.v (fD i)))[k]? = some (.v (fD i)) := by rw [List.getElem?_set_self hk2]
    simp -implicitDefEqProofs only [eVar_, ak, rdSl_v, Option.map_some]
theorem in_dead {h : Nat} {kvs : Kvs} {left : List Nat} {ws : List Int} (hS : S[h]? = some (.dic .N kvs)) : gIn S (.v (keyN left ws)) (.v (.ob h)) = some (.v (.bl (dLook kvs (keyN left ws)).isSome)) := by
  simp [gIn, inR, R.dicR, hS, key_ok]
theorem put_dead {kvs : Kvs} {left : List Nat} {ws : List Int} (hc : kvs.length < cap) (hn : dLook kvs (keyN left ws) = none) : putOb (.dic .N kvs) (keyN left ws) (.bl true) = some (.dic .N (kvs ++ [(keyN left ws, .bl true)])) := by
  simp [putOb, key_ok, hc, hn]
theorem order_ok {m : Int} (hR : ∀ r ∈ R, r.Ok m) : ∀ n, n ≤ 1000 → OrderP R n (zbq n)
  | 0, _ => fun S h left ws kvs hn => absurd hn (Nat.not_lt_zero _)
  | n + 1, hn2 => by
    intro S h left ws kvs hn hl hw hS hcap
    have ih := order_ok hR n (by omega)
    have hlt : h < S.length := (List.getElem?_eq_some_iff.mp hS).1
    have c1 : left.length ≤ cap := Nat.le_trans (show left.length ≤ 1001 by omega) (by decide)
    show runOf 10 (bo_order_of (zbq n)) _ S = _
    unfold bo_order_of
    rw [zay (ss := [.b (R.map Row.d), .v (tN left), .v (tW ws), .v (.ob h)]) (by simp) (by simp)]
    have f1 : fVar 1 [.b (R.map Row.d), .v (tN left), .v (tW ws), .v (.ob h), .no, .no, .no, .no, .no, .no] S = some ((left.map fD, .no, true), S) := fVar_t rfl
    have hc := has_comp (S := S) (R := R) (ρ := [.b (R.map Row.d), .v (tN left), .v (tW ws), .v (.ob h), .no, .no, .no, .no, .no, .no]) (k := 4) (left := left) rfl (by decide) (by simp) hl
    have eq : gEq S (.l ((left.filter (hasE R)).map fD)) (.l []) = some (.v (.bl (decide (endsOf R left = [])))) := by
      rw [fD_ints, gEq_ll (zbN _) (by simp [okNs]), eqDs_nil_r, List.isEmpty_map, List.isEmpty_map, ends_nil]
    have inn := in_dead (left := left) (ws := ws) hS
    have nx := next_ok (S := S) (R := R) hl (show left.length ≤ 1000 by omega)
    rw [srch] at hcap ⊢
    by_cases h1 : endsOf R left = []
    · rw [if_pos h1] at hcap ⊢
      rw [decide_eq_true h1] at eq
      rw [set_same hS]
      simp -implicitDefEqProofs [f1, c1, wipeE, hc, eq, resR]
    · rw [if_neg h1] at hcap ⊢
      rw [decide_eq_false h1] at eq
      have kt : (eTup [eVar 1, eVar 2]) [.b (R.map Row.d), .v (tN left), .v (tW ws), .v (.ob h), .no, .no, .no, .no, .no, .no] S = some (.v (keyN left ws), S) := by simp -implicitDefEqProofs; rfl
      by_cases h2 : (dLook kvs (keyN left ws)).isSome = true
      · rw [if_pos h2] at hcap ⊢
        rw [h2] at inn
        rw [set_same hS]
        simp -implicitDefEqProofs [-eTup_, f1, c1, wipeE, hc, eq, kt, inn, resR]
      · rw [if_neg h2] at hcap ⊢
        have h2' : (dLook kvs (keyN left ws)).isSome = false := by simpa using h2
        rw [h2'] at inn
        have h3 : dLook kvs (keyN left ws) = none := by simpa using h2
        have add1 : Adds (left.length - 1) kvs (tryL R (srch R n) left ws (nextOf R left) kvs).2 := tryL_adds (fun i hi w k => (srch_adds n _ w k).mono (by have := filter_ne_len hi; omega)) _ _ fun i hi => (List.mem_filter.mp hi).1
        have hpos : 0 < left.length := by
          cases left with
          | nil => exact absurd rfl h1
          | cons a l => simp
        have nin : ∀ i ∈ nextOf R left, i ∈ left := fun i hi => (List.mem_filter.mp hi).1
        cases q : tryL R (srch R n) left ws (nextOf R left) kvs with
        | mk o kvs1 =>
          rw [q] at hcap add1
          have lp := order_loop hR ih hn (by omega) hl hw (nextOf R left) S kvs .no .no .no .no .no .no nin hS
          rw [q] at lp
          cases o with
          | some o =>
            have lp := lp hcap
            simp only at lp ⊢
            simp -implicitDefEqProofs [-eTup_, f1, c1, wipeE, hc, eq, kt, inn, nx, lp, resR]
          | none =>
            simp only at hcap
            rw [List.length_append] at hcap
            have hc1 : kvs1.length < cap := by simp at hcap; omega
            obtain ⟨B4, B5, B6, B7, B8, B9, lp⟩ := lp (Nat.le_of_lt hc1)
            have h4 := look_adds (left := left) (ws := ws) add1 (by omega) h3
            have kt2 : (eTup [eVar 1, eVar 2]) [.b (R.map Row.d), .v (tN left), .v (tW ws), .v (.ob h), B4, B5, B6, B7, B8, B9] (S.set h (.dic .N kvs1)) = some (.v (keyN left ws), S.set h (.dic .N kvs1)) := by simp -implicitDefEqProofs; rfl
            have hS1 : (S.set h (.dic .N kvs1))[h]? = some (.dic .N kvs1) := List.getElem?_set_self hlt
            simp -implicitDefEqProofs [-eTup_, f1, c1, wipeE, hc, eq, kt, inn, nx, lp, kt2, put_dead hc1 h4, resR, hlt]
end
end Ev
namespace Ev
open PySem L2
section
variable {S : Store} {R : List Row}
def sr (R : List Row) : Option (List Nat) × Kvs := srch R 40 (List.range R.length) (List.replicate 10 0) []
theorem box_N {ρ : Env} : (eBox (eDNew .N)) ρ S = some (.v (.ob S.length), S ++ [.dic .N []]) := rfl
theorem tup_rg {ρ : Env} {fa : E} {n : Nat} (h : fa ρ S = some (.v (.int (n : Nat)), S)) (hn : n ≤ 1000) : (eTupRg fa) ρ S = some (.v (tN (List.range n)), S) := by
  have sn := small_n (n := (n : Nat)) (by omega) (by omega)
  unfold eTupRg
  rw [h]
  simp -implicitDefEqProofs [sn, rangeD_nat]
  rfl
theorem set_last {o o' : Ob} : (S ++ [o]).set S.length o' = S ++ [o'] := by
  rw [List.set_append_right _ _ (Nat.le_refl _)]
  simp
theorem judged_ok {m : Int} (hm : m < 10000) (h : Hist m R) (hn : R.length ≤ 12) (hc : (sr R).2.length ≤ cap) : ev_judged [.b (R.map Row.d)] S = some (resR (sr R).1, S ++ [.dic .N (sr R).2]) := by
  unfold ev_judged bo_judged
  rw [zay (ss := [.b (R.map Row.d)]) (by simp) (by simp)]
  have nd := need_ok (S := S) hm h hn
  have tr : (eTupRg (eBlt gLen [eVar 0])) [.b (R.map Row.d)] S = some (.v (tN (List.range R.length)), S) := tup_rg (by simp) (by omega)
  have od := order_ok h.1 40 (by decide) (S ++ [.dic .N []]) S.length (List.range R.length) (List.replicate 10 0) [] (by simp; omega) (fun i hi => List.mem_range.mp hi) ws0 (by simp) hc
  rw [set_last] at od
  have app : ([.b (R.map Row.d)] : Env) ++ List.replicate (1 - ([.b (R.map Row.d)] : Env).length) Sl.no = [.b (R.map Row.d)] := rfl
  rw [app]
  have mayR : ∀ o, (resR o).may = true := fun o => by cases o <;> rfl
  simp -implicitDefEqProofs [-List.reduceReplicate, nd, tr, zero10, box_N, od, mayR]
  exact ⟨rfl, rfl⟩
end
end Ev
namespace Ev
open PySem L2
def belowB (b : Int) : D → Bool
  | .int i => decide (0 ≤ i ∧ i < b)
  | _ => false
def intD : D → Int
  | .int i => i
  | _ => 0
def risB : D → Bool
  | .tup xs => decide (1 ≤ xs.length) && (decide (xs.length ≤ 4) && (xs.all (belowB 10) && decide ((xs.map intD).Pairwise (· < ·))))
  | _ => false
def pairB : D → Bool
  | .tup [_, _] => true
  | _ => false
def fstD : D → D
  | .tup (a :: _) => a
  | _ => .non
def sndD : D → D
  | .tup (_ :: b :: _) => b
  | _ => .non
def pairsB : D → Bool
  | .tup xs => xs.all pairB && (xs.all (fun p => belowB 1000 (sndD p)) && risB (.tup (xs.map fstD)))
  | _ => false
def restB (w : Str) (xs : List D) : Bool :=
  if w = "look" then (match xs with | [f] => risB f | _ => false)
  else if w = "put" ∨ w = "draft" then (match xs with | [f] => pairsB f | _ => false)
  else if w = "add" ∨ w = "wait" then (match xs with | [f, g] => belowB 10 f && belowB 1000 g | _ => false)
  else if w = "save" then xs.isEmpty
  else if w = "move" then (match xs with | [a, b, m] => belowB 10 a && (belowB 10 b && (decide (intD a ≠ intD b) && belowB 1000 m)) | _ => false)
  else false
def deedB : D → Bool
  | .tup (.str w :: xs) => restB w xs
  | _ => false
section
variable {S : Store}
theorem za2 {n : Nat} : ∀ {xs : List D}, okNs n xs = true ↔ ∀ x ∈ xs, okN n x = true
  | [] => by simp [okNs]
  | x :: xs => by simp [okNs, za2 (xs := xs)]
mutual
theorem okN_up : ∀ (n : Nat) (d : D), okN n d = true → okN (n + 1) d = true
  | n, .non, h => by simp [okN]
  | n, .bl _, h => by simp [okN]
  | n, .int _, h => by simp [okN]
  | n, .str s, h => by simpa [okN] using h
  | 0, .tup xs, h => by simp [okN] at h
  | n + 1, .tup xs, h => by
    rw [okN]
    exact okNs_up n xs (by simpa [okN] using h)
  | n, .ob _, h => by cases n <;> simp [okN] at h
theorem okNs_up : ∀ (n : Nat) (d : List D), okNs n d = true → okNs (n + 1) d = true
  | n, [], h => by simp [okNs]
  | n, x :: xs, h => by
    rw [okNs, Bool.and_eq_true] at h
    rw [okNs, okN_up n x h.1, okNs_up n xs h.2]
    rfl
end
theorem okN_le {n m : Nat} (h : n ≤ m) {d : D} (hd : okN n d = true) : okN m d = true := by
  induction h with
  | refl => exact hd
  | step _ ih => exact okN_up _ _ ih
theorem okNs_le {n m : Nat} (h : n ≤ m) {d : List D} (hd : okNs n d = true) : okNs m d = true := za2.mpr fun x hx => okN_le h (za2.mp hd x hx)
theorem okN_ob {n h : Nat} : ¬ okN n (.ob h) = true := by cases n <;> simp [okN]
theorem zbt {d : D} {b : Int} {n : Nat} (h : okN n d = true) : zaj [.v d, .v (.int b)] S = some (.v (.bl (belowB b d)), S) := by
  cases d with
  | int i => rw [below_int]; rfl
  | ob o => exact absurd h okN_ob
  | non => unfold zaj zbP; rw [zay (ss := [.v .non, .v (.int b)]) (by simp) (by simp)]; simp -implicitDefEqProofs [isTy, belowB]
  | bl t => unfold zaj zbP; rw [zay (ss := [.v (.bl t), .v (.int b)]) (by simp) (by simp)]; simp -implicitDefEqProofs [isTy, belowB]
  | str t => unfold zaj zbP; rw [zay (ss := [.v (.str t), .v (.int b)]) (by simp) (by simp)]; simp -implicitDefEqProofs [isTy, belowB]
  | tup t => unfold zaj zbP; rw [zay (ss := [.v (.tup t), .v (.int b)]) (by simp) (by simp)]; simp -implicitDefEqProofs [isTy, belowB]
theorem below_intD {b : Int} {d : D} (h : belowB b d = true) : d = .int (intD d) := by
  cases d <;> simp [belowB] at h
  rfl
theorem all_ints {b : Int} : ∀ {xs : List D}, xs.all (belowB b) = true → xs = (xs.map intD).map D.int
  | [], _ => rfl
  | x :: xs, h => by
    rw [List.all_cons, Bool.and_eq_true] at h
    rw [List.map_cons, List.map_cons, ← all_ints h.2, ← below_intD h.1]
theorem filt_none {xs : List D} {p : D → Bool} (h : xs.all p = true) : xs.filter (fun x => !p x) = [] := by
  rw [List.filter_eq_nil_iff]
  intro x hx
  simp [List.all_eq_true.mp h x hx]
theorem filt_some {xs : List D} {p : D → Bool} (h : xs.all p = false) : xs.filter (fun x => !p x) ≠ [] := by
  intro e
  rw [List.filter_eq_nil_iff] at e
  have : xs.all p = true := List.all_eq_true.mpr fun x hx => by simpa using e x hx
  rw [h] at this
  cases this
theorem ne_filt {n : Nat} {xs : List D} {p : D → Bool} (ok : okNs n xs = true) (hn : n ≤ 60) : gNe S (.l (xs.filter fun x => !p x)) (.l []) = some (.v (.bl (!xs.all p))) := by
  have o : okNs 60 (xs.filter fun x => !p x) = true := okNs_le hn (za2.mpr fun x hx => za2.mp ok x (List.mem_filter.mp hx).1)
  rw [gNe_ll o (by simp [okNs]), eqDs_nil_r]
  cases q : xs.all p with
  | true => rw [filt_none q]; rfl
  | false =>
    have := filt_some q
    cases r : xs.filter (fun x => !p x) with
    | nil => exact absurd r this
    | cons a b => rfl
theorem sort_same {l : List Int} : decide (l = sortU l) = decide (l.Pairwise (· < ·)) := by
  by_cases h : l.Pairwise (· < ·)
  · rw [decide_eq_true h, sortU_rise h, decide_eq_true rfl]
  · rw [decide_eq_false h, decide_eq_false]
    intro e
    rw [e] at h
    exact h (sortU_sorted l)
theorem rising_gen {d : D} (ok : okN 59 d = true) : zaw [.v d] S = some (.v (.bl (risB d)), S) := by
  cases d with
  | ob o => exact absurd ok okN_ob
  | non => unfold zaw zbe; rw [zay (ss := [.v .non]) (by simp) (by simp)]; simp -implicitDefEqProofs [isTy, risB]
  | int i => unfold zaw zbe; rw [zay (ss := [.v (.int i)]) (by simp) (by simp)]; simp -implicitDefEqProofs [isTy, risB]
  | bl i => unfold zaw zbe; rw [zay (ss := [.v (.bl i)]) (by simp) (by simp)]; simp -implicitDefEqProofs [isTy, risB]
  | str i => unfold zaw zbe; rw [zay (ss := [.v (.str i)]) (by simp) (by simp)]; simp -implicitDefEqProofs [isTy, risB]
  | tup xs =>
    have oks : okNs 58 xs = true := by simpa [okN] using ok
    unfold zaw zbe
    rw [zay (ss := [.v (.tup xs)]) (by simp) (by simp)]
    have cm := zbd (S := S) (ρ := [.v (.tup xs), .no]) (tg := tgName 1) (ft := eUn gNot (eCall zaj [] [eVar 1, eLit (.int 10)])) (fe := eVar 1) id (fun x => !belowB 10 x) id (xs := xs) fun x hx => ⟨_, rfl, by
      simp -implicitDefEqProofs [zbt (za2.mp oks x hx)], fun _ => by simp -implicitDefEqProofs⟩
    rw [List.map_id, List.map_id] at cm
    have ne := ne_filt (S := S) (p := belowB 10) oks (by decide)
    have fv : fVar 0 [.v (.tup xs), .no] S = some ((xs, .no, true), S) := fVar_t rfl
    by_cases c1 : 1 ≤ xs.length
    · by_cases c2 : xs.length ≤ 4
      · have k1 : (1 : Int) ≤ xs.length := by omega
        have k2 : (xs.length : Int) ≤ 4 := by omega
        have c3 : xs.length ≤ cap := Nat.le_trans c2 (by decide)
        cases q : xs.all (belowB 10) with
        | false =>
          rw [q] at ne
          simp -implicitDefEqProofs [isTy, k1, k2, c3, fv, wipeE, cm, ne, risB, q]
        | true =>
          rw [q] at ne
          have ei := all_ints q
          generalize hns : xs.map intD = ns at ei
          have i1 : ints1 xs = some ns := by rw [ei]; exact ints1_map _
          have c4 : ns.length < 64 := by rw [← hns, List.length_map]; omega
          have eq : gEq S (.l xs) (.l ((sortU ns).map D.int)) = some (.v (.bl (decide (ns.Pairwise (· < ·))))) := by
            rw [ei, gEq_ll (zbN _) (zbN _), eqDs_ints, sort_same]
          simp -implicitDefEqProofs [-List.map_map, isTy, k1, k2, c3, fv, wipeE, cm, ne, eSortedSet, i1, c4, eq, risB, q, c1, c2, hns]
      · have k2 : ¬ (xs.length : Int) ≤ 4 := by omega
        simp -implicitDefEqProofs [isTy, k2, risB, c2]
    · have k1 : ¬ (1 : Int) ≤ xs.length := by omega
      simp -implicitDefEqProofs [isTy, k1, risB, c1]
theorem pair_gen {x : D} {ρ : Env} {n : Nat} (h : okN n x = true) (h1 : ρ[1]? = some (.v x)) : (eOr (eUn gNot (eIsi .tuple (eVar 1))) (eBin gNe (eBlt gLen [eVar 1]) (eLit (.int 2)))) ρ S = some (.v (.bl (!pairB x)), S) := by
  cases x with
  | ob o => exact absurd h okN_ob
  | tup ys =>
    match ys with
    | [] => simp -implicitDefEqProofs [h1, isTy, pairB]
    | [a] => simp -implicitDefEqProofs [h1, isTy, pairB]
    | [a, b] => simp -implicitDefEqProofs [h1, isTy, pairB]
    | a :: b :: c :: r =>
      have : ¬ ((r.length : Int) + 1 + 1 + 1 = 2) := by omega
      simp -implicitDefEqProofs [h1, isTy, pairB, this]
  | _ => simp -implicitDefEqProofs [h1, isTy, pairB]
theorem pairs_gen {d : D} (ok : okN 59 d = true) (hs : ∀ ys, d = .tup ys → ys.length ≤ 1000) : zaK [.v d] S = some (.v (.bl (pairsB d)), S) := by
  cases d with
  | ob o => exact absurd ok okN_ob
  | non => unfold zaK zbn; rw [zay (ss := [.v .non]) (by simp) (by simp)]; simp -implicitDefEqProofs [isTy, pairsB]
  | int i => unfold zaK zbn; rw [zay (ss := [.v (.int i)]) (by simp) (by simp)]; simp -implicitDefEqProofs [isTy, pairsB]
  | bl i => unfold zaK zbn; rw [zay (ss := [.v (.bl i)]) (by simp) (by simp)]; simp -implicitDefEqProofs [isTy, pairsB]
  | str i => unfold zaK zbn; rw [zay (ss := [.v (.str i)]) (by simp) (by simp)]; simp -implicitDefEqProofs [isTy, pairsB]
  | tup xs =>
    have oks : okNs 58 xs = true := by simpa [okN] using ok
    have c3 : xs.length ≤ cap := Nat.le_trans (hs xs rfl) (by decide)
    unfold zaK zbn
    rw [zay (ss := [.v (.tup xs)]) (by simp) (by simp)]
    have cm := zbd (S := S) (ρ := [.v (.tup xs), .no]) (tg := tgName 1) (ft := eOr (eUn gNot (eIsi .tuple (eVar 1))) (eBin gNe (eBlt gLen [eVar 1]) (eLit (.int 2)))) (fe := eVar 1) id (fun x => !pairB x) id (xs := xs) fun x hx => ⟨_, rfl, pair_gen (za2.mp oks x hx) rfl, fun _ => by simp -implicitDefEqProofs⟩
    rw [List.map_id, List.map_id] at cm
    have ne := ne_filt (S := S) (p := pairB) oks (by decide)
    have fv : fVar 0 [.v (.tup xs), .no] S = some ((xs, .no, true), S) := fVar_t rfl
    cases q : xs.all pairB with
    | false =>
      rw [q] at ne
      simp -implicitDefEqProofs [isTy, c3, fVar_t, fv, wipeE, cm, ne, pairsB, q]
    | true =>
      rw [q] at ne
      have pr : ∀ x ∈ xs, ∃ a b, x = .tup [a, b] ∧ okN 57 a = true ∧ okN 57 b = true := fun x hx => by
        have h := List.all_eq_true.mp q x hx
        have o := za2.mp oks x hx
        unfold pairB at h
        split at h
        · rename_i a b
          rw [okN] at o
          simp only [okNs, Bool.and_eq_true] at o
          exact ⟨a, b, rfl, o.1, o.2.1⟩
        · cases h
      have cm2 := zbd (S := S) (ρ := [.v (.tup xs), .no]) (tg := tgName 1) (ft := eUn gNot (eCall zaj [] [eBin gIx (eVar 1) (eLit (.int 1)), eLit (.int 1000)])) (fe := eVar 1) id (fun x => !belowB 1000 (sndD x)) id (xs := xs) fun x hx => ⟨_, rfl, by
        obtain ⟨a, b, rfl, oa, ob⟩ := pr x hx
        simp -implicitDefEqProofs [zbt ob, sndD], fun _ => by simp -implicitDefEqProofs⟩
      rw [List.map_id, List.map_id] at cm2
      have ne2 := ne_filt (S := S) (p := fun x => belowB 1000 (sndD x)) oks (by decide)
      cases q2 : xs.all (fun x => belowB 1000 (sndD x)) with
      | false =>
        rw [q2] at ne2
        simp -implicitDefEqProofs [isTy, c3, fv, wipeE, cm, ne, cm2, ne2, pairsB, q, q2]
      | true =>
        rw [q2] at ne2
        have cm3 := comp_map (S := S) (ρ := [.v (.tup xs), .no]) (tg := tgName 1) (fe := eBin gIx (eVar 1) (eLit (.int 0))) id fstD (xs := xs) fun x hx => ⟨_, rfl, by
          obtain ⟨a, b, rfl, oa, ob⟩ := pr x hx
          simp -implicitDefEqProofs [fstD]⟩
        rw [List.map_id] at cm3
        have rk := rising_gen (S := S) (d := .tup (xs.map fstD)) (by
          rw [okN]
          refine za2.mpr fun y hy => ?_
          obtain ⟨x, hx, rfl⟩ := List.mem_map.mp hy
          obtain ⟨a, b, rfl, oa, ob⟩ := pr x hx
          exact okN_up _ _ oa)
        simp -implicitDefEqProofs [isTy, c3, fv, wipeE, cm, ne, cm2, ne2, cm3, rk, pairsB, q, q2]
theorem deed_str {w : Str} {xs : List D} (ok : okN 60 (.tup (.str w :: xs)) = true) (hs : ∀ x ∈ xs, ∀ ys, x = .tup ys → ys.length ≤ 1000) : zaR [.v (.tup (.str w :: xs))] S = some (.v (.bl (deedB (.tup (.str w :: xs)))), S) := by
  have ok1 : PyData.strOk w = true ∧ okNs 59 xs = true := by
    rw [okN, okNs, Bool.and_eq_true] at ok
    exact ⟨by simpa [okN] using ok.1, ok.2⟩
  obtain ⟨okw, okx⟩ := ok1
  have em : gEq S (.v (.tup (.str w :: xs))) (.v (.tup [])) = some (.v (.bl false)) := by
    rw [gEqV ok (by simp [okN, okNs])]
    simp
  unfold zaR bo_is_deed
  rw [zay (ss := [.v (.tup (.str w :: xs))]) (by simp) (by simp)]
  by_cases w1 : w = "look"
  · subst w1
    match xs, okx, hs with
    | [], _, _ => simp -implicitDefEqProofs [cap, isTy, em, deedB, restB]
    | [f], okx, _ =>
      have r := rising_gen (S := S) (za2.mp okx f (by simp))
      simp -implicitDefEqProofs [cap, isTy, em, deedB, restB, r]
    | f :: g :: r, _, _ =>
      have : ¬ ((r.length : Int) + 1 + 1 + 1 = 2) := by omega
      simp -implicitDefEqProofs [cap, isTy, em, deedB, restB, this]
  · by_cases w2 : w = "put" ∨ w = "draft"
    · have w2' : (decide (Str.ofString "put" = w) || decide (Str.ofString "draft" = w)) = true := by
        rcases w2 with rfl | rfl <;> simp
      match xs, okx, hs with
      | [], _, _ => simp -implicitDefEqProofs [cap, isTy, em, okw, w1, w2, w2', deedB, restB]
      | [f], okx, hs =>
        have r := pairs_gen (S := S) (za2.mp okx f (by simp)) (hs f (by simp))
        simp -implicitDefEqProofs [cap, isTy, em, okw, w1, w2, w2', deedB, restB, r]
      | f :: g :: r, _, _ =>
        have : ¬ ((r.length : Int) + 1 + 1 + 1 = 2) := by omega
        simp -implicitDefEqProofs [cap, isTy, em, okw, w1, w2, w2', deedB, restB, this]
    · have w2' : (decide (Str.ofString "put" = w) || decide (Str.ofString "draft" = w)) = false := by
        rw [Bool.or_eq_false_iff, decide_eq_false_iff_not, decide_eq_false_iff_not]
        exact ⟨fun z => w2 (.inl z.symm), fun z => w2 (.inr z.symm)⟩
      by_cases w3 : w = "add" ∨ w = "wait"
      · have w3' : (decide (Str.ofString "add" = w) || decide (Str.ofString "wait" = w)) = true := by
          rcases w3 with rfl | rfl <;> simp
        match xs, okx, hs with
        | [], _, _ => simp -implicitDefEqProofs [cap, isTy, em, okw, w1, w2, w2', w3, w3', deedB, restB]
        | [f], okx, hs => simp -implicitDefEqProofs [cap, isTy, em, okw, w1, w2, w2', w3, w3', deedB, restB]
        | [f, g], okx, hs =>
          have r1 := zbt (S := S) (b := 10) (za2.mp okx f (by simp))
          have r2 := zbt (S := S) (b := 1000) (za2.mp okx g (by simp))
          cases q : belowB 10 f with
          | true => simp -implicitDefEqProofs [cap, isTy, em, okw, w1, w2, w2', w3, w3', deedB, restB, r1, r2, q]
          | false => simp -implicitDefEqProofs [cap, isTy, em, okw, w1, w2, w2', w3, w3', deedB, restB, r1, r2, q]
        | f :: g :: h :: r, _, _ =>
          have : ¬ ((r.length : Int) + 1 + 1 + 1 + 1 = 3) := by omega
          simp -implicitDefEqProofs [cap, isTy, em, okw, w1, w2, w2', w3, w3', deedB, restB, this]
      · have w3' : (decide (Str.ofString "add" = w) || decide (Str.ofString "wait" = w)) = false := by
          rw [Bool.or_eq_false_iff, decide_eq_false_iff_not, decide_eq_false_iff_not]
          exact ⟨fun z => w3 (.inl z.symm), fun z => w3 (.inr z.symm)⟩
        by_cases w4 : w = "save"
        · subst w4
          match xs with
          | [] => simp -implicitDefEqProofs [cap, isTy, em, deedB, restB]
          | f :: r =>
            have : ¬ ((r.length : Int) + 1 + 1 = 1) := by omega
            simp -implicitDefEqProofs [cap, isTy, em, deedB, restB, this]
        · by_cases w5 : w = "move"
          · subst w5
            match xs, okx, hs with
            | [], _, _ => simp -implicitDefEqProofs [cap, isTy, em, deedB, restB]
            | [f], okx, hs => simp -implicitDefEqProofs [cap, isTy, em, deedB, restB]
            | [f, g], okx, hs => simp -implicitDefEqProofs [cap, isTy, em, deedB, restB]
            | [f, g, m], okx, hs =>
              have r1 := zbt (S := S) (b := 10) (za2.mp okx f (by simp))
              have r2 := zbt (S := S) (b := 10) (za2.mp okx g (by simp))
              have r3 := zbt (S := S) (b := 1000) (za2.mp okx m (by simp))
              cases q : belowB 10 f with
              | false => simp -implicitDefEqProofs [cap, isTy, em, deedB, restB, r1, q]
              | true =>
                cases q2 : belowB 10 g with
                | false => simp -implicitDefEqProofs [cap, isTy, em, deedB, restB, r1, r2, q, q2]
                | true =>
                  have e1 := below_intD q
                  have e2 := below_intD q2
                  generalize intD f = i at e1
                  generalize intD g = j at e2
                  subst e1 e2
                  by_cases h : i = j
                  · subst h
                    simp -implicitDefEqProofs [cap, isTy, em, deedB, restB, r1, r2, r3, q, q2, intD]
                  · simp -implicitDefEqProofs [cap, isTy, em, deedB, restB, r1, r2, r3, q, q2, h, intD]
            | f :: g :: h :: m :: r, _, _ =>
              have : ¬ ((r.length : Int) + 1 + 1 + 1 + 1 + 1 = 4) := by omega
              simp -implicitDefEqProofs [cap, isTy, em, deedB, restB, this]
          · simp -implicitDefEqProofs [cap, isTy, em, okw, w1, w2, w2', w3, w3', w4, w5, deedB, restB]
theorem deed_emp : zaR [.v (.tup [])] S = some (.v (.bl false), S) := by
  unfold zaR bo_is_deed
  rw [zay (ss := [.v (.tup [])]) (by simp) (by simp)]
  have em : gEq S (.v (.tup [])) (.v (.tup [])) = some (.v (.bl true)) := by
    rw [gEqV (by simp [okN, okNs]) (by simp [okN, okNs])]
    simp
  simp -implicitDefEqProofs [cap, isTy, em]
end
end Ev
namespace Ev
open PySem L2
def Up (f : Sx) (g : Sy) : Prop := ∀ ρ S o, f ρ S = some o → g ρ S = some (.o o)
theorem up_lift {f : Sx} : Up f (yLift f) := fun ρ S o e => by unfold yLift; rw [e]; rfl
theorem up_seq {f f' : Sx} {g g' : Sy} (h : Up f g) (h' : Up f' g') : Up (sSeq f f') (ySeq g g') := by
  intro ρ S o e
  rw [sSeq_] at e
  unfold ySeq
  cases q : f ρ S with
  | none => rw [q] at e; cases e
  | some o1 =>
    rw [q] at e
    rw [h _ _ _ q]
    cases o1 with
    | next ρ1 S1 => exact h' _ _ _ e
    | brk a b => simp at e; rw [← e]
    | cont a b => simp at e; rw [← e]
    | ret a b => simp at e; rw [← e]
theorem up_if {ft : E} {f f' : Sx} {g g' : Sy} (h : Up f g) (h' : Up f' g') : Up (sIf ft f f') (yIf ft g g') := by
  intro ρ S o e
  rw [sIf_] at e
  obtain ⟨x, S1, e1, e⟩ := zat e
  unfold yIf
  rw [e1, zaG]
  cases q : x.bool with
  | none => rw [q] at e; cases e
  | some b =>
    rw [q, iteB_s] at e
    cases b with
    | true => exact h _ _ _ e
    | false => exact h' _ _ _ e
theorem up_fail {g : Sy} : Up sFail g := fun _ _ _ e => by simp at e
theorem up_body : Up zaX zaQ := up_seq (up_if up_fail up_lift) (up_seq (up_if up_fail up_lift) up_lift)
section
variable {S S2 : Store} {ρ ρ1 ρ2 : Env}
theorem loopY_next {tg : Tg} {bd : Sy} {d : D} {r : List D} (h1 : tg d ρ = some ρ1) (h2 : bd ρ1 S = some (.o (.next ρ2 S2))) : loopY tg bd .no (d :: r) ρ S = loopY tg bd .no r ρ2 S2 := by
  rw [loopY, alive_no, if_pos rfl, h1]
  simp only [h2]
theorem loopY_x {tg : Tg} {bd : Sy} {d : D} {r : List D} {c : Nat} {i : Option Int} (h1 : tg d ρ = some ρ1) (h2 : bd ρ1 S = some (.x c i S2)) : loopY tg bd .no (d :: r) ρ S = some (.x c i S2) := by
  rw [loopY, alive_no, if_pos rfl, h1]
  simp only [h2]
theorem yIf_t {ft : E} {f g : Sy} (h : ft ρ S = some (.v (.bl true), S2)) : yIf ft f g ρ S = f ρ S2 := by unfold yIf; rw [h]; rfl
theorem yIf_f {ft : E} {f g : Sy} (h : ft ρ S = some (.v (.bl false), S2)) : yIf ft f g ρ S = g ρ S2 := by unfold yIf; rw [h]; rfl
theorem ySeq_x {f g : Sy} {c : Nat} {d : Option Int} (h : f ρ S = some (.x c d S2)) : ySeq f g ρ S = some (.x c d S2) := by unfold ySeq; rw [h]
theorem ySeq_n {f g : Sy} (h : f ρ S = some (.o (.next ρ2 S2))) : ySeq f g ρ S = g ρ2 S2 := by unfold ySeq; rw [h]
end
def kvF (kvs : List (D × D)) (rows : List Row) : List (D × D) := rows.foldl (fun k r => dPut k (.int (r.u : Nat)) (.int r.last)) kvs
theorem nt_put {kvs : List (D × D)} {done_ : List Row} {r : Row} (hn : Nt kvs done_) : Nt (dPut kvs (.int (r.u : Nat)) (.int r.last)) (done_ ++ [r]) := by
  refine ⟨?_, ?_⟩
  · intro p hp
    unfold dPut at hp
    split at hp
    · obtain ⟨q, hq, rfl⟩ := List.mem_map.mp hp
      split
      · rename_i c
        exact ⟨r.u, r.last, by rw [c], r, by simp, rfl, rfl⟩
      · obtain ⟨u, l, e, r', hr', h1⟩ := hn.1 q hq
        exact ⟨u, l, e, r', by simp [hr'], h1⟩
    · rcases List.mem_append.mp hp with hp | hp
      · obtain ⟨u, l, e, r', hr', h1⟩ := hn.1 p hp
        exact ⟨u, l, e, r', by simp [hr'], h1⟩
      · rw [List.mem_singleton.mp hp]
        exact ⟨r.u, r.last, rfl, r, by simp, rfl, rfl⟩
  · have := hn.2
    unfold dPut
    split
    · rw [List.length_map, List.length_append]; simp; omega
    · rw [List.length_append, List.length_append]; simp; omega
theorem kvF_nt : ∀ {rest done_ : List Row} {kvs : List (D × D)}, Nt kvs done_ → Nt (kvF kvs rest) (done_ ++ rest)
  | [], done_, kvs, h => by simpa [kvF] using h
  | r :: rest, done_, kvs, h => by
    have := kvF_nt (rest := rest) (nt_put (r := r) h)
    rw [List.append_assoc] at this
    exact this
section
variable {S : Store}
theorem need_loopY {A : Sl} {m : Int} (hm : m < 10000) : ∀ (rest done_ : List Row) (kvs : List (D × D)) (x y : Sl) (tail : List D), Hist m (done_ ++ rest) → done_.length + rest.length ≤ 12 → Nt kvs done_ →
    ∃ x' y', loopY (tgTup [2, 3]) zaQ .no (enumD done_.length (rest.map Row.d ++ tail)) [A, .d .K kvs, x, y] S = loopY (tgTup [2, 3]) zaQ .no (enumD (done_.length + rest.length) tail) [A, .d .K (kvF kvs rest), x', y'] S
  | [], done_, kvs, x, y, tail, _, _, _ => ⟨x, y, rfl⟩
  | r :: rest, done_, kvs, x, y, tail, hh, hl, hn => by
    have hr : r.Ok m := hh.1 r (by simp)
    have ri := row_is (S := S) hr hm
    have hlook : ∀ d, dLook kvs (.int (r.u : Nat)) = some d → ∃ l, d = .int l ∧ l < r.b := by
      intro d e
      unfold dLook at e
      cases q : kvs.find? (fun p => decide (p.1 = D.int (r.u : Nat))) with
      | none => rw [q] at e; cases e
      | some p =>
        rw [q] at e
        cases e
        obtain ⟨u, l, rfl, r', hr', h1, h2⟩ := hn.1 p (List.mem_of_find?_eq_some q)
        have hp := List.find?_some q
        simp at hp
        refine ⟨l, rfl, ?_⟩
        have pw := (List.pairwise_append.mp hh.2).2.2 r' hr' r (by simp)
        rw [h2] at pw
        exact pw (by omega)
    have hput : putSl (.d .K kvs) (.int (r.u : Nat)) (.int r.last) = some (.d .K (dPut kvs (.int (r.u : Nat)) (.int r.last))) := by
      have c : kvs.length < cap := Nat.lt_of_le_of_lt (Nat.le_trans hn.2 (show done_.length ≤ 12 by simp at hl; omega)) (by decide)
      simp [putSl, keyOk, key1, c]
    have hn' := nt_put (r := r) hn
    obtain ⟨x', y', ih⟩ := need_loopY (A := A) hm rest (done_ ++ [r]) (dPut kvs (.int (r.u : Nat)) (.int r.last)) (.v (.int (done_.length : Nat))) (.v r.d) tail (by rw [List.append_assoc]; exact hh) (by rw [List.length_append]; simp at hl ⊢; omega) hn'
    refine ⟨x', y', ?_⟩
    have hlt : ¬ (12 : Int) ≤ (done_.length : Nat) := by simp at hl; omega
    have body : zaX [A, .d .K kvs, .v (.int (done_.length : Nat)), .v r.d] S = some (.next [A, .d .K (dPut kvs (.int (r.u : Nat)) (.int r.last)), .v (.int (done_.length : Nat)), .v r.d] S) := by
      unfold zaX
      have inn : gIn S (.v (.int (r.u : Nat))) (.bd .K kvs) = some (.v (.bl (dLook kvs (.int (r.u : Nat))).isSome)) := by
        simp [gIn, inR, R.dicR, keyOk, key1]
      have ixx : gIx S (.bd .K kvs) (.v (.int (r.u : Nat))) = (dLook kvs (.int (r.u : Nat))).map R.v := by
        simp [gIx, R.dicR, keyOk, key1]
      have r0 : gIx S (.v r.d) (.v (.int 0)) = some (.v (.int (r.u : Nat))) := by simp [Row.d]
      have r2 : gIx S (.v r.d) (.v (.int 2)) = some (.v (.int r.b)) := by simp [Row.d]
      have r3 : gIx S (.v r.d) (.v (.int 3)) = some (.v r.end_) := by simp [Row.d]
      have lst : (eIf (eUn gIsN (eBin gIx (eVar 3) (eLit (.int 3)))) (eBin gIx (eVar 3) (eLit (.int 2))) (eBin gIx (eVar 3) (eLit (.int 3)))) [A, .d .K kvs, .v (.int (done_.length : Nat)), .v r.d] S = some (.v (.int r.last), S) := by
        cases q : r.e with
        | none => simp -implicitDefEqProofs [r2, r3, Row.end_, Row.last, q]
        | some p => simp -implicitDefEqProofs [r2, r3, Row.end_, Row.last, q]
      cases q : dLook kvs (.int (r.u : Nat)) with
      | none => simp -implicitDefEqProofs [-eIf_, hlt, ri, r0, inn, q, lst, hput]
      | some d =>
        obtain ⟨l, rfl, hl2⟩ := hlook d q
        have hnl : ¬ r.b ≤ l := by omega
        simp -implicitDefEqProofs [-eIf_, hlt, ri, r0, r2, inn, ixx, q, hnl, lst, hput]
    rw [List.length_append] at ih
    rw [List.map_cons, List.cons_append, enumD, loopY_next (ρ1 := [A, .d .K kvs, .v (.int (done_.length : Nat)), .v r.d]) rfl (up_body _ _ _ body)]
    rw [show (r :: rest).length = 1 + rest.length by simp; omega, ← Nat.add_assoc]
    exact ih
def BadD (kvs : List (D × D)) (d : D) : Prop := (∀ S, zaV [.v d] S = some (.v (.bl false), S)) ∨ ∃ (u : Int) (dd e a : D) (b l : Int), d = .tup [.int u, dd, .int b, e, a] ∧ (∀ S, zaV [.v d] S = some (.v (.bl true), S)) ∧ dLook kvs (.int u) = some (.int l) ∧ b ≤ l
theorem raise_body {A : Sl} {kvs : List (D × D)} {n : Nat} {nd : D} (h : n ≤ 12) (hb : n = 12 ∨ BadD kvs nd) : zaQ [A, .d .K kvs, .v (.int (n : Nat)), .v nd] S = some (.x 5 (some (n : Nat)) S) := by
  unfold zaQ
  by_cases h12 : n = 12
  · subst h12
    exact ySeq_x (by rw [yIf_t (S2 := S) (by simp)]; rfl)
  · have hlt : ¬ (12 : Int) ≤ (n : Nat) := by omega
    rcases hb.resolve_left h12 with hb | ⟨u, dd, e, a, b, l, rfl, h1, h2, h3⟩
    · exact ySeq_x (by rw [yIf_t (S2 := S) (by simp -implicitDefEqProofs [hlt, hb])]; rfl)
    · have inn : gIn S (.v (.int u)) (.bd .K kvs) = some (.v (.bl (dLook kvs (.int u)).isSome)) := by
        simp [gIn, inR, R.dicR, keyOk, key1]
      have ixx : gIx S (.bd .K kvs) (.v (.int u)) = (dLook kvs (.int u)).map R.v := by
        simp [gIx, R.dicR, keyOk, key1]
      rw [ySeq_n (ρ2 := [A, .d .K kvs, .v (.int (n : Nat)), .v (.tup [.int u, dd, .int b, e, a])]) (S2 := S) (by rw [yIf_f (S2 := S) (by simp -implicitDefEqProofs [hlt, h1])]; rfl)]
      exact ySeq_x (by rw [yIf_t (S2 := S) (by simp -implicitDefEqProofs [inn, ixx, h2, h3])]; rfl)
theorem needY {m : Int} {rows : List Row} {nd : D} {rest : List D} (hm : m < 10000) (h : Hist m rows) (hl : rows.length ≤ 12) (hb : rows.length = 12 ∨ BadD (kvF [] rows) nd) : zaC [.b (rows.map Row.d ++ nd :: rest)] S = some (5, some (rows.length : Int), S) := by
  obtain ⟨x, y, e⟩ := need_loopY (S := S) (A := .b (rows.map Row.d ++ nd :: rest)) hm rows [] [] .no .no (nd :: rest) (by simpa using h) (by simpa using hl) ⟨by simp, by simp⟩
  have e2 : loopY (tgTup [2, 3]) zaQ .no (enumD 0 (rows.map Row.d ++ nd :: rest)) [.b (rows.map Row.d ++ nd :: rest), .d .K [], .no, .no] S = some (.x 5 (some (rows.length : Int)) S) := by
    refine e.trans ?_
    rw [show ([] : List Row).length + rows.length = rows.length by simp, enumD]
    exact loopY_x rfl (raise_body hl hb)
  have fe : fEnumV 0 [.b (rows.map Row.d ++ nd :: rest), .d .K [], .no, .no] S = some ((enumD 0 (rows.map Row.d ++ nd :: rest), .no, true), S) := by
    simp [fEnumV, R.src]
  have bo : zbs [.b (rows.map Row.d ++ nd :: rest), .no, .no, .no] S = some (.x 5 (some (rows.length : Int)) S) := by
    unfold zbs
    rw [ySeq_n (ρ2 := [.b (rows.map Row.d ++ nd :: rest), .d .K [], .no, .no]) (S2 := S) rfl]
    unfold yFor
    rw [fe, zaG]
    exact e2
  show runY 4 zbs [.b (rows.map Row.d ++ nd :: rest)] S = _
  show (match zbs [.b (rows.map Row.d ++ nd :: rest), .no, .no, .no] S with
    | some (.x c d S') => some (c, d, S')
    | _ => none) = _
  rw [bo]
theorem judgedY {m : Int} {rows : List Row} {nd : D} {rest : List D} (hm : m < 10000) (h : Hist m rows) (hl : rows.length ≤ 12) (hb : rows.length = 12 ∨ BadD (kvF [] rows) nd) : za1 [.b (rows.map Row.d ++ nd :: rest)] S = some (5, some (rows.length : Int), S) := by
  have bo : boY_judged [.b (rows.map Row.d ++ nd :: rest)] S = some (.x 5 (some (rows.length : Int)) S) := by
    unfold boY_judged yFst yExpr yCallE
    rw [show eArgs [eVar 0] [.b (rows.map Row.d ++ nd :: rest)] S = some ([.b (rows.map Row.d ++ nd :: rest)], S) by simp, zaG, needY hm h hl hb]
    rfl
  show (match boY_judged [.b (rows.map Row.d ++ nd :: rest)] S with
    | some (.x c d S') => some (c, d, S')
    | _ => none) = _
  rw [bo]
theorem writtenY {m : Int} {rows : List Row} {nd : D} {rest : List D} (hm : m < 10000) (h : Hist m rows) (hl : rows.length ≤ 12) (hb : rows.length = 12 ∨ BadD (kvF [] rows) nd) : zaP [.b (rows.map Row.d ++ nd :: rest)] S = some (5, some (rows.length : Int), S) := by
  have bo : boY_written [.b (rows.map Row.d ++ nd :: rest), .no] S = some (.x 5 (some (rows.length : Int)) S) := by
    unfold boY_written yFst yExpr yCallE
    rw [show eArgs [eVar 0] [.b (rows.map Row.d ++ nd :: rest), .no] S = some ([.b (rows.map Row.d ++ nd :: rest)], S) by simp, zaG, needY hm h hl hb]
    rfl
  show (match boY_written [.b (rows.map Row.d ++ nd :: rest), .no] S with
    | some (.x c d S') => some (c, d, S')
    | _ => none) = _
  rw [bo]
theorem gy_01 {m : Int} {rows : List Row} {nd : D} {rest : List D} (hm : m < 10000) (h : Hist m rows) (hl : rows.length ≤ 12) (hb : rows.length = 12 ∨ BadD (kvF [] rows) nd) : (gy1 [.b (rows.map Row.d ++ nd :: rest)] S = some (5, some (rows.length : Int), S) ∧ gy2 [.v (.int 0), .b (rows.map Row.d ++ nd :: rest)] S = some (5, some (rows.length : Int), S)) ∧ (gy3 [.b (rows.map Row.d ++ nd :: rest)] S = some (5, some (rows.length : Int), S) ∧ gy4 [.v (.int 0), .b (rows.map Row.d ++ nd :: rest)] S = some (5, some (rows.length : Int), S)) := by
  have a0 : eArgs [eVar 0] [.b (rows.map Row.d ++ nd :: rest)] S = some ([.b (rows.map Row.d ++ nd :: rest)], S) := by simp
  have a1 : eArgs [eVar 1] [.v (.int 0), .b (rows.map Row.d ++ nd :: rest)] S = some ([.b (rows.map Row.d ++ nd :: rest)], S) := by simp
  refine ⟨⟨?_, ?_⟩, ?_, ?_⟩
  · unfold gy1 yCallE; rw [a0, zaG, judgedY hm h hl hb]
  · unfold gy2 yCallE; rw [a1, zaG, writtenY hm h hl hb]
  · unfold gy3 yCallE; rw [a0, zaG, judgedY hm h hl hb]
  · unfold gy4 yCallE; rw [a1, zaG, writtenY hm h hl hb]
end
end Ev
namespace Ev
open PySem PySem.Spec PyProof.Rows L2 TL
theorem joinL_len (S : List Nat) : ∀ parts : List (List Nat), (joinL S parts).length ≤ (parts.map List.length).sum + parts.length * S.length
  | [] => by simp [joinL]
  | [p] => by simp [joinL]
  | p :: q :: r => by
    have ih := joinL_len S (q :: r)
    have e : joinL S (p :: q :: r) = p ++ (S ++ joinL S (q :: r)) := rfl
    have e2 : (((p :: q :: r).map List.length).sum) = p.length + ((q :: r).map List.length).sum := by rw [List.map_cons, List.sum_cons]
    have e3 : (p :: q :: r).length * S.length = (q :: r).length * S.length + S.length := by rw [List.length_cons (a := p), Nat.succ_mul]
    rw [e, e2, e3, List.length_append, List.length_append]
    omega
theorem join_len (a : Str) (ys : List Str) : (Txt.join a ys).length ≤ (ys.map (·.length)).sum + ys.length * a.length := by
  rw [join_eq, len_tl, tl_join, len_tl a]
  have := joinL_len (tl a) (ys.map tl)
  rw [List.map_map, List.length_map] at this
  have e : (List.length ∘ tl) = fun y : Str => y.length := by
    funext y
    exact (len_tl y).symm
  rw [e] at this
  exact this
theorem sum_le {α : Type} {f : α → Nat} {B : Nat} : ∀ {xs : List α}, (∀ x ∈ xs, f x ≤ B) → (xs.map f).sum ≤ xs.length * B
  | [], _ => by simp
  | x :: xs, h => by
    have h1 := h x (by simp)
    have h2 := sum_le (xs := xs) fun y hy => h y (by simp [hy])
    rw [List.map_cons, List.sum_cons, List.length_cons, Nat.succ_mul]
    omega
theorem join_bd {a : Str} {ys : List Str} {n B : Nat} (hn : ys.length ≤ n) (hB : ∀ y ∈ ys, y.length ≤ B) : (ys.map (·.length)).sum + ys.length * a.length ≤ n * (B + a.length) := by
  have h1 : (ys.map (·.length)).sum ≤ ys.length * B := sum_le hB
  have h2 : ys.length * (B + a.length) ≤ n * (B + a.length) := Nat.mul_le_mul_right _ hn
  rw [Nat.mul_add] at h2
  omega
def strI (i : Int) : Str := Str.ofString (toString i)
theorem strI_len {i : Int} (h : 0 ≤ i) (h' : i < 1000000) : (strI i).length ≤ 6 := by
  obtain ⟨n, rfl⟩ : ∃ n : Nat, i = n := ⟨i.toNat, by omega⟩
  unfold strI
  rw [len_tl, tl_num]
  exact numL_len (by decide) (by omega)
def wordD : D → Str
  | .non => "-"
  | .bl b => if b then "yes" else "no"
  | .int i => strI i
  | .tup xs => Txt.join "," (xs.map fun
    | .tup ys => Txt.join ":" (ys.map fun
      | .int i => strI i
      | _ => "")
    | .int i => strI i
    | _ => "")
  | _ => ""
def Sm (i : Int) : Prop := 0 ≤ i ∧ i < 1000000
inductive TxOk : D → Prop
  | non : TxOk .non
  | bl (b : Bool) : TxOk (.bl b)
  | int {i : Int} : Sm i → TxOk (.int i)
  | tis {ns : List Int} : ns.length ≤ 4 → (∀ n ∈ ns, Sm n) → TxOk (.tup (ns.map D.int))
  | tps {ps : List (Nat × Int)} : ps.length ≤ 4 → (∀ p ∈ ps, Sm (p.1 : Nat) ∧ Sm p.2) → TxOk (.tup (ps.map pD))
section
variable {S : Store} {ρ : Env}
@[simp] theorem eJoin_ {fo fe : E} : eJoin fo fe ρ S = bnd (fo ρ S) fun x S1 => bnd (fe ρ S1) fun y S2 => (joinR S2 x y).map fun z => (z, S2) := rfl
theorem joinR_l {a : Str} {ys : List Str} (h : (ys.map (·.length)).sum + ys.length * a.length ≤ 16777216) : joinR S (.v (.str a)) (.l (ys.map D.str)) = some (.v (.str (Txt.join a ys))) := by
  unfold joinR
  simp only [lseq_l, Option.bind_some, strs_map]
  rw [if_pos h]
theorem gStr_i {i : Int} (h : Sm i) : gStr S [.v (.int i)] = some (.v (.str (strI i))) := by
  unfold gStr
  simp [h.1, h.2]
  rfl
theorem len_1 {s : String} (h : s.length = 1) : (Str.ofString s).length = 1 := by rw [PySem.ofString_length]; exact h
theorem word_int {i : Int} (h : Sm i) : zax [.v (.int i)] S = some (.v (.str (strI i)), S) := by
  unfold zax bo_word_of
  rw [zay (ss := [.v (.int i)]) (by simp) (by simp)]
  simp -implicitDefEqProofs [isTy, gStr_i h]
theorem word_ints {ns : List Int} (h : ns.length ≤ 4) (hn : ∀ n ∈ ns, Sm n) : zax [.v (.tup (ns.map D.int))] S = some (.v (.str (Txt.join "," (ns.map strI))), S) ∧ (Txt.join "," (ns.map strI)).length ≤ 28 := by
  have bd : ((ns.map strI).map (·.length)).sum + (ns.map strI).length * (Str.ofString ",").length ≤ 28 := by
    refine Nat.le_trans (join_bd (n := 4) (B := 6) (by rw [List.length_map]; exact h) fun y hy => ?_) (by rw [len_1 rfl]; decide)
    obtain ⟨n, hn', rfl⟩ := List.mem_map.mp hy
    exact strI_len (hn n hn').1 (hn n hn').2
  refine ⟨?_, Nat.le_trans (join_len _ _) bd⟩
  unfold zax bo_word_of
  rw [zay (ss := [.v (.tup (ns.map D.int))]) (by simp) (by simp)]
  have f : fVar 0 [.v (.tup (ns.map D.int)), .no, .no] S = some ((ns.map D.int, .no, true), S) := fVar_t rfl
  have cm := comp_map (S := S) (ρ := [.v (.tup (ns.map D.int)), .no, .no]) (tg := tgName 1) (fe := eIf (eIsi .tuple (eVar 1)) (eJoin (eLit (.str ":")) (eComp (fVar 1) (tgName 2) [2] eTrue (eBlt gStr [(eVar 2)]))) (eBlt gStr [(eVar 1)])) D.int (fun n => D.str (strI n)) (xs := ns) fun n hn' => ⟨_, rfl, by
    simp -implicitDefEqProofs [isTy, gStr_i (hn n hn')]⟩
  have jn := joinR_l (S := S) (a := ",") (ys := ns.map strI) (Nat.le_trans bd (by decide))
  rw [List.map_map] at jn
  have c : ns.length ≤ cap := Nat.le_trans h (by decide)
  have cm' : compF (tgName 1) eTrue (eIf (eIsi .tuple (eVar 1)) (eJoin (eLit (.str ":")) (eComp (fVar 1) (tgName 2) [2] eTrue (eBlt gStr [(eVar 2)]))) (eBlt gStr [(eVar 1)])) .no [.v (.tup (ns.map D.int)), .no, .no] (ns.map D.int) S = some (ns.map (D.str ∘ strI), S) := cm
  have wp : wipeE [.v (.tup (ns.map D.int)), .no, .no] [1] = [.v (.tup (ns.map D.int)), .no, .no] := rfl
  have cc : (eComp (fVar 0) (tgName 1) [1] eTrue (eIf (eIsi .tuple (eVar 1)) (eJoin (eLit (.str ":")) (eComp (fVar 1) (tgName 2) [2] eTrue (eBlt gStr [(eVar 2)]))) (eBlt gStr [(eVar 1)]))) [.v (.tup (ns.map D.int)), .no, .no] S = some (.l (ns.map (D.str ∘ strI)), S) := by
    rw [eComp_, f, zaG, List.length_map, if_pos c, wp, cm', zaG]
  simp -implicitDefEqProofs [-eComp_, -eIf_, -List.map_map, isTy, cc, jn]
def strP (p : Nat × Int) : Str := Txt.join ":" [strI (p.1 : Nat), strI p.2]
theorem strP_len {p : Nat × Int} (h : Sm (p.1 : Nat) ∧ Sm p.2) : (strP p).length ≤ 14 := by
  refine Nat.le_trans (join_len _ _) (Nat.le_trans (join_bd (n := 2) (B := 6) (by simp) fun y hy => ?_) (by rw [len_1 rfl]; decide))
  simp only [List.mem_cons, List.not_mem_nil, or_false] at hy
  rcases hy with rfl | rfl
  · exact strI_len h.1.1 h.1.2
  · exact strI_len h.2.1 h.2.2
theorem word_prs {ps : List (Nat × Int)} (h : ps.length ≤ 4) (hn : ∀ p ∈ ps, Sm (p.1 : Nat) ∧ Sm p.2) : zax [.v (.tup (ps.map pD))] S = some (.v (.str (Txt.join "," (ps.map strP))), S) ∧ (Txt.join "," (ps.map strP)).length ≤ 60 := by
  have bd : ((ps.map strP).map (·.length)).sum + (ps.map strP).length * (Str.ofString ",").length ≤ 60 := by
    refine Nat.le_trans (join_bd (n := 4) (B := 14) (by rw [List.length_map]; exact h) fun y hy => ?_) (by rw [len_1 rfl]; decide)
    obtain ⟨n, hn', rfl⟩ := List.mem_map.mp hy
    exact strP_len (hn n hn')
  refine ⟨?_, Nat.le_trans (join_len _ _) bd⟩
  unfold zax bo_word_of
  rw [zay (ss := [.v (.tup (ps.map pD))]) (by simp) (by simp)]
  have f : fVar 0 [.v (.tup (ps.map pD)), .no, .no] S = some ((ps.map pD, .no, true), S) := fVar_t rfl
  have cm := comp_map (S := S) (ρ := [.v (.tup (ps.map pD)), .no, .no]) (tg := tgName 1) (fe := eIf (eIsi .tuple (eVar 1)) (eJoin (eLit (.str ":")) (eComp (fVar 1) (tgName 2) [2] eTrue (eBlt gStr [(eVar 2)]))) (eBlt gStr [(eVar 1)])) pD (fun p => D.str (strP p)) (xs := ps) fun p hp => ⟨_, rfl, by
    have hp' := hn p hp
    have f1 : fVar 1 [.v (.tup (ps.map pD)), .v (pD p), .no] S = some (([D.int (p.1 : Nat), D.int p.2], .no, true), S) := fVar_t rfl
    have jn := joinR_l (S := S) (a := ":") (ys := [strI (p.1 : Nat), strI p.2]) (by
      refine Nat.le_trans (join_bd (n := 2) (B := 6) (by simp) fun y hy => ?_) (by rw [len_1 rfl]; decide)
      simp only [List.mem_cons, List.not_mem_nil, or_false] at hy
      rcases hy with rfl | rfl
      · exact strI_len hp'.1.1 hp'.1.2
      · exact strI_len hp'.2.1 hp'.2.2)
    have ii : (eIsi .tuple (eVar 1)) [.v (.tup (ps.map pD)), .v (pD p), .no] S = some (.v (.bl true), S) := by simp -implicitDefEqProofs [pD, isTy]
    have wp : wipeE [.v (.tup (ps.map pD)), .v (pD p), .no] [2] = [.v (.tup (ps.map pD)), .v (pD p), .no] := rfl
    have g1 := gStr_i (S := S) hp'.1
    have g2 := gStr_i (S := S) hp'.2
    show (eIf (eIsi .tuple (eVar 1)) (eJoin (eLit (.str ":")) (eComp (fVar 1) (tgName 2) [2] eTrue (eBlt gStr [(eVar 2)]))) (eBlt gStr [(eVar 1)])) [.v (.tup (ps.map pD)), .v (pD p), .no] S = _
    have cm2 : (eComp (fVar 1) (tgName 2) [2] eTrue (eBlt gStr [(eVar 2)])) [.v (.tup (ps.map pD)), .v (pD p), .no] S = some (.l ([strI (p.1 : Nat), strI p.2].map D.str), S) := by
      rw [eComp_, f1, zaG, if_pos (show ([D.int (p.1 : Nat), D.int p.2] : List D).length ≤ cap from (by decide : (2 : Nat) ≤ cap)), wp, compF_c]
      simp -implicitDefEqProofs [compF_c, g1, g2]
    rw [eIf_, ii, zaG, R.bool_bl, iteB_s, if_pos rfl, eJoin_, eLit_, zaG, cm2, zaG, jn]
    rfl⟩
  have jn := joinR_l (S := S) (a := ",") (ys := ps.map strP) (Nat.le_trans bd (by decide))
  rw [List.map_map] at jn
  have c : ps.length ≤ cap := Nat.le_trans h (by decide)
  have wp : wipeE [.v (.tup (ps.map pD)), .no, .no] [1] = [.v (.tup (ps.map pD)), .no, .no] := rfl
  have cc : (eComp (fVar 0) (tgName 1) [1] eTrue (eIf (eIsi .tuple (eVar 1)) (eJoin (eLit (.str ":")) (eComp (fVar 1) (tgName 2) [2] eTrue (eBlt gStr [(eVar 2)]))) (eBlt gStr [(eVar 1)]))) [.v (.tup (ps.map pD)), .no, .no] S = some (.l (ps.map (D.str ∘ strP)), S) := by
    rw [eComp_, f, zaG, List.length_map, if_pos c, wp]
    rw [show compF (tgName 1) eTrue (eIf (eIsi .tuple (eVar 1)) (eJoin (eLit (.str ":")) (eComp (fVar 1) (tgName 2) [2] eTrue (eBlt gStr [(eVar 2)]))) (eBlt gStr [(eVar 1)])) .no [.v (.tup (ps.map pD)), .no, .no] (ps.map pD) S = some (ps.map (D.str ∘ strP), S) from cm, zaG]
  simp -implicitDefEqProofs [-eComp_, -eIf_, -List.map_map, isTy, cc, jn]
end
end Ev
namespace Ev
open PySem L2
def ansB : Deed → D → Bool
  | .look fs, .tup xs => decide (xs.length = fs.length) && xs.all (belowB 1000)
  | .put ps, .tup xs => decide (xs.length = ps.length) && xs.all (belowB 1000)
  | .add _ _, a => belowB 1000 a
  | .move _ _ _, .bl _ => true
  | _, _ => false
section
variable {S : Store}
theorem eq_filt {n : Nat} {xs : List D} {p : D → Bool} (ok : okNs n xs = true) (hn : n ≤ 60) : gEq S (.l (xs.filter fun x => !p x)) (.l []) = some (.v (.bl (xs.all p))) := by
  have o : okNs 60 (xs.filter fun x => !p x) = true := okNs_le hn (za2.mpr fun x hx => za2.mp ok x (List.mem_filter.mp hx).1)
  rw [gEq_ll o (by simp [okNs]), eqDs_nil_r]
  cases q : xs.all p with
  | true => rw [filt_none q]; rfl
  | false =>
    have := filt_some q
    cases r : xs.filter (fun x => !p x) with
    | nil => exact absurd r this
    | cons a b => rfl
theorem answer_tup {d : D} {w : Str} {fs xs : List D} (hw : (w = "move") = False) (hw2 : (w = "add") = False) (so : PyData.strOk w = true) (ok : okNs 58 xs = true) (hc : xs.length ≤ 1000) (hd : d = .tup [.str w, .tup fs]) : zaI [.v d, .v (.tup xs)] S = some (.v (.bl (decide (xs.length = fs.length) && xs.all (belowB 1000))), S) := by
  subst hd
  unfold zaI zbB
  rw [zay (ss := [.v (.tup [.str w, .tup fs]), .v (.tup xs)]) (by simp) (by simp)]
  have cm := zbd (S := S) (ρ := [.v (.tup [.str w, .tup fs]), .v (.tup xs), .no]) (tg := tgName 2) (ft := eUn gNot (eCall zaj [] [eVar 2, eLit (.int 1000)])) (fe := eVar 2) id (fun x => !belowB 1000 x) id (xs := xs) fun x hx => ⟨_, rfl, by
    simp -implicitDefEqProofs [zbt (za2.mp ok x hx)], fun _ => by simp -implicitDefEqProofs⟩
  rw [List.map_id, List.map_id] at cm
  have c3 : xs.length ≤ cap := Nat.le_trans hc (by decide)
  have f1 : fVar 1 [.v (.tup [.str w, .tup fs]), .v (.tup xs), .no] S = some ((xs, .no, true), S) := fVar_t rfl
  have eq := eq_filt (S := S) (p := belowB 1000) ok (by decide)
  by_cases h : xs.length = fs.length
  · have h2 : (xs.length : Int) = fs.length := by omega
    simp -implicitDefEqProofs [isTy, so, hw, hw2, h2, h, f1, wipeE, cm]
    rw [if_pos (by rw [← h]; exact c3)]
    simp -implicitDefEqProofs [eq]
  · have h2 : ¬ (xs.length : Int) = fs.length := by omega
    simp -implicitDefEqProofs [isTy, so, hw, hw2, h2, h]
theorem zbS {d : D} {w : Str} {fs : List D} {a : D} (hw : (w = "move") = False) (hw2 : (w = "add") = False) (so : PyData.strOk w = true) (hd : d = .tup [.str w, .tup fs]) {k : Kd} (hk : (R.v a).kd S = some k) (ht : isTy k .tuple = false) : zaI [.v d, .v a] S = some (.v (.bl false), S) := by
  subst hd
  unfold zaI zbB
  rw [zay (ss := [.v (.tup [.str w, .tup fs]), .v a]) (by simp) (by simp)]
  simp -implicitDefEqProofs [so, hw, hw2, hk, ht]
theorem answer_gen {d : Deed} {a : D} (ok : okN 59 a = true) (hs : ∀ ys, a = .tup ys → ys.length ≤ 1000) : zaI [.v d.d, .v a] S = some (.v (.bl (ansB d a)), S) := by
  have nm : (Str.ofString "look" = Str.ofString "move") = False := by simp
  have na : (Str.ofString "look" = Str.ofString "add") = False := by simp
  have pm : (Str.ofString "put" = Str.ofString "move") = False := by simp
  have pa : (Str.ofString "put" = Str.ofString "add") = False := by simp
  cases d with
  | look fs =>
    cases a with
    | tup xs =>
      rw [answer_tup (d := (Deed.look fs).d) (w := "look") (fs := fs.map fD) nm na so_look (by simpa [okN] using ok) (hs xs rfl) rfl, List.length_map]
      rfl
    | non => exact zbS (w := "look") (fs := fs.map fD) nm na so_look rfl rfl rfl
    | bl b => exact zbS (w := "look") (fs := fs.map fD) nm na so_look rfl rfl rfl
    | int b => exact zbS (w := "look") (fs := fs.map fD) nm na so_look rfl rfl rfl
    | str b => exact zbS (w := "look") (fs := fs.map fD) nm na so_look rfl rfl rfl
    | ob b => exact absurd ok okN_ob
  | put ps =>
    cases a with
    | tup xs =>
      rw [answer_tup (d := (Deed.put ps).d) (w := "put") (fs := ps.map pD) pm pa so_put (by simpa [okN] using ok) (hs xs rfl) rfl, List.length_map]
      rfl
    | non => exact zbS (w := "put") (fs := ps.map pD) pm pa so_put rfl rfl rfl
    | bl b => exact zbS (w := "put") (fs := ps.map pD) pm pa so_put rfl rfl rfl
    | int b => exact zbS (w := "put") (fs := ps.map pD) pm pa so_put rfl rfl rfl
    | str b => exact zbS (w := "put") (fs := ps.map pD) pm pa so_put rfl rfl rfl
    | ob b => exact absurd ok okN_ob
  | add f w =>
    unfold zaI zbB
    rw [zay (ss := [.v (Deed.add f w).d, .v a]) (by simp) (by simp)]
    have b := zbt (S := S) (b := 1000) ok
    simp -implicitDefEqProofs [Deed.d, b, ansB]
  | move f g w =>
    unfold zaI zbB
    rw [zay (ss := [.v (Deed.move f g w).d, .v a]) (by simp) (by simp)]
    cases a with
    | ob b => exact absurd ok okN_ob
    | non => simp -implicitDefEqProofs [Deed.d, ansB, isTy]
    | bl b => simp -implicitDefEqProofs [Deed.d, ansB, isTy]
    | int b => simp -implicitDefEqProofs [Deed.d, ansB, isTy]
    | str b => simp -implicitDefEqProofs [Deed.d, ansB, isTy]
    | tup b => simp -implicitDefEqProofs [Deed.d, ansB, isTy]
def rowB (u : D) (dd : Deed) (b e a : D) : Bool := belowB 100 u && (belowB 10000 b && (if e = .non then decide (a = .non) else belowB 10000 e && (decide (intD b < intD e) && ansB dd a)))
theorem row_gen {u b e a : D} {dd : Deed} (hd : dd.Ok) (ou : okN 59 u = true) (ob : okN 59 b = true) (oe : okN 59 e = true) (oa : okN 59 a = true) (hs : ∀ ys, a = .tup ys → ys.length ≤ 1000) : zaV [.v (.tup [u, dd.d, b, e, a])] S = some (.v (.bl (rowB u dd b e a)), S) := by
  unfold zaV bo_is_row
  rw [zay (ss := [.v (.tup [u, dd.d, b, e, a])]) (by simp) (by simp)]
  have b1 := zbt (S := S) (b := 100) ou
  have b2 := zbt (S := S) (b := 10000) ob
  have b3 := zbt (S := S) (b := 10000) oe
  have pl := plain_is (S := S) hd
  have an := answer_gen (S := S) (d := dd) oa hs
  cases q1 : belowB 100 u with
  | false => simp -implicitDefEqProofs [isTy, pl, b1, q1, rowB]
  | true =>
    cases q2 : belowB 10000 b with
    | false => simp -implicitDefEqProofs [isTy, pl, b1, q1, b2, q2, rowB]
    | true =>
      by_cases q3 : e = .non
      · subst q3
        simp -implicitDefEqProofs [isTy, pl, b1, q1, b2, q2, rowB]
      · cases q4 : belowB 10000 e with
        | false => simp -implicitDefEqProofs [isTy, pl, b1, q1, b2, q2, q3, b3, q4, rowB]
        | true =>
          have eb := below_intD q2
          have ee := below_intD q4
          generalize intD b = bi at *
          generalize intD e = ei at *
          subst eb ee
          by_cases q5 : bi < ei
          · simp -implicitDefEqProofs [isTy, pl, b1, q1, b2, q2, b3, q4, q5, an, rowB, intD]
          · simp -implicitDefEqProofs [isTy, pl, b1, q1, b2, q2, b3, q4, q5, an, rowB, intD]
theorem row_noplain {u dd b e a : D} (h : zaR [.v dd] S = some (.v (.bl false), S)) : zaV [.v (.tup [u, dd, b, e, a])] S = some (.v (.bl false), S) := by
  unfold zaV bo_is_row
  rw [zay (ss := [.v (.tup [u, dd, b, e, a])]) (by simp) (by simp)]
  have pl : zbr [.v dd] S = some (.v (.bl false), S) := by
    unfold zbr bo_is_plain
    rw [zay (ss := [.v dd]) (by simp) (by simp)]
    simp -implicitDefEqProofs [h]
  simp -implicitDefEqProofs [isTy, pl]
theorem row_len {xs : List D} (h : xs.length ≠ 5) : zaV [.v (.tup xs)] S = some (.v (.bl false), S) := by
  unfold zaV bo_is_row
  rw [zay (ss := [.v (.tup xs)]) (by simp) (by simp)]
  have : ¬ ((xs.length : Int) = 5) := by omega
  simp -implicitDefEqProofs [isTy, this]
end
end Ev
namespace Ev
open PySem L2
section
variable {S : Store} {kvs : List (D × D)}
theorem gAdd_bl {a b : List D} (h : a.length + b.length ≤ cap) : gAdd S (.b a) (.l b) = some (.l (a ++ b)) := by
  show (R.b a).cat S (.l b) = _
  unfold R.cat
  simp only [R.tlst, if_pos h]
theorem gAdd_ll {a b : List D} (h : a.length + b.length ≤ cap) : gAdd S (.l a) (.l b) = some (.l (a ++ b)) := by
  show (R.l a).cat S (.l b) = _
  unfold R.cat
  simp only [R.tlst, if_pos h]
theorem gNeg_i {i : Int} : gNeg S (.v (.int i)) = some (.v (.int (-i))) := rfl
def dA : D := .tup [.str "add", .int 5, .int 1]
theorem dA_eq : dA = (Deed.add 5 1).d := rfl
theorem dA_ok : (Deed.add 5 1).Ok := ⟨by decide, by decide, by decide⟩
def dL5 : D := .tup [.str "look", .tup [.int 5]]
theorem dL5_eq : dL5 = (Deed.look [5]).d := rfl
theorem dL5_ok : (Deed.look [5]).Ok := ⟨by simp, by decide, by decide, by simp⟩
def dL45 : D := .tup [.str "look", .tup [.int 4, .int 5]]
theorem dL45_eq : dL45 = (Deed.look [4, 5]).d := rfl
theorem dL45_ok : (Deed.look [4, 5]).Ok := ⟨by simp, by decide, by decide, by simp⟩
def dP45 : D := .tup [.str "put", .tup [.tup [.int 4, .int 1], .tup [.int 5, .int 2]]]
theorem dP45_eq : dP45 = (Deed.put [(4, 1), (5, 2)]).d := rfl
theorem dP45_ok : (Deed.put [(4, 1), (5, 2)]).Ok := ⟨⟨by simp, by decide, by decide, by simp⟩, by simp [Wo]⟩
def dM : D := .tup [.str "move", .int 4, .int 5, .int 1]
theorem dM_eq : dM = (Deed.move 4 5 1).d := rfl
theorem dM_ok : (Deed.move 4 5 1).Ok := ⟨by decide, by decide, by decide, by decide, by decide⟩
theorem bad_of {u b e a d : D} {dd : Deed} (ed : d = dd.d) (hd : dd.Ok) (ou : okN 59 u = true) (ob : okN 59 b = true) (oe : okN 59 e = true) (oa : okN 59 a = true) (hs : ∀ ys, a = .tup ys → ys.length ≤ 1000) (hr : rowB u dd b e a = false) : BadD kvs (.tup [u, d, b, e, a]) := by
  subst ed
  exact .inl fun S => by rw [row_gen hd ou ob oe oa hs, hr]
theorem clash_of {e a d : D} {u b l : Int} {dd : Deed} (ed : d = dd.d) (hd : dd.Ok) (oe : okN 59 e = true) (oa : okN 59 a = true) (hs : ∀ ys, a = .tup ys → ys.length ≤ 1000) (hr : rowB (.int u) dd (.int b) e a = true) (hk : dLook kvs (.int u) = some (.int l)) (hb : b ≤ l) : BadD kvs (.tup [.int u, d, .int b, e, a]) := by
  subst ed
  exact .inr ⟨u, _, e, a, b, l, rfl, fun S => by rw [row_gen hd rfl rfl oe oa hs, hr], hk, hb⟩
def Fr (kvs : List (D × D)) (A1 A2 A6 : Sl) (n : Nat) (ρ : Env) : Prop := ∃ (A4 : Sl) (L : List D) (A7 A8 A9 A10 : Sl), ρ = [.v (.ob 0), A1, A2, .d .K kvs, A4, .l L, A6, A7, A8, A9, A10] ∧ (∀ d ∈ L, BadD kvs d) ∧ 0 < L.length ∧ L.length ≤ n
theorem fr_loop {A1 A2 A6 : Sl} {tg : Tg} {bd : Sx} (P : D → Prop) (hs : ∀ d n ρ, P d → n ≤ 1000 → Fr kvs A1 A2 A6 n ρ → ∃ ρ1 ρ2, tg d ρ = some ρ1 ∧ bd ρ1 S = some (.next ρ2 S) ∧ Fr kvs A1 A2 A6 (n + 2) ρ2) : ∀ (its : List D) (n : Nat) (ρ : Env), (∀ d ∈ its, P d) → n + 2 * its.length ≤ 1000 → Fr kvs A1 A2 A6 n ρ → ∃ ρ', loopF tg bd .no its ρ S = some (.next ρ' S) ∧ Fr kvs A1 A2 A6 (n + 2 * its.length) ρ'
  | [], n, ρ, _, _, h => ⟨ρ, rfl, h⟩
  | d :: its, n, ρ, hp, hn, h => by
    rw [List.length_cons] at hn
    obtain ⟨ρ1, ρ2, e1, e2, h2⟩ := hs d n ρ (hp d (by simp)) (by omega) h
    obtain ⟨ρ', e3, h3⟩ := fr_loop P hs its (n + 2) ρ2 (fun x hx => hp x (by simp [hx])) (by omega) h2
    refine ⟨ρ', ?_, by rw [List.length_cons, show n + 2 * (its.length + 1) = n + 2 + 2 * its.length by omega]; exact h3⟩
    rw [loopF_c, e1, Option.bind_some, e2, stepL_x, e3]
theorem app1 {n : Nat} {L : List D} {x : D} (h : ∀ d ∈ L, BadD kvs d) (h0 : 0 < L.length) (hn : L.length ≤ n) (hx : BadD kvs x) : (∀ d ∈ L ++ [x], BadD kvs d) ∧ 0 < (L ++ [x]).length ∧ (L ++ [x]).length ≤ n + 2 :=
  ⟨fun d hd => (List.mem_append.mp hd).elim (h d) fun z => by rw [List.mem_singleton.mp z]; exact hx, by simp, by simp; omega⟩
theorem app2 {n : Nat} {L : List D} {x y : D} (h : ∀ d ∈ L, BadD kvs d) (h0 : 0 < L.length) (hn : L.length ≤ n) (hx : BadD kvs x) (hy : BadD kvs y) : (∀ d ∈ L ++ [x, y], BadD kvs d) ∧ 0 < (L ++ [x, y]).length ∧ (L ++ [x, y]).length ≤ n + 2 :=
  ⟨fun d hd => (List.mem_append.mp hd).elim (h d) fun z => by
    rcases List.mem_cons.mp z with z | z
    · rw [z]; exact hx
    · rw [List.mem_singleton.mp z]; exact hy, by simp, by simp; omega⟩
theorem capN {n : Nat} (h : n ≤ 100000) : n ≤ cap := Nat.le_trans h (by decide)
theorem capT {n : Nat} (h : n ≤ 100000) : n < cap := Nat.lt_of_le_of_lt h (by decide)
def okS (a : D) : Prop := okN 59 a = true ∧ ∀ ys, a = .tup ys → ys.length ≤ 1000
def P2 (u : D) : Prop := okN 59 u = true ∧ belowB 100 u = false
theorem st2 {A1 A2 A6 : Sl} (d : D) (n : Nat) (ρ : Env) (hp : P2 d) (hn : n ≤ 1000) (h : Fr kvs A1 A2 A6 n ρ) : ∃ ρ1 ρ2, tgName 7 d ρ = some ρ1 ∧ zbJ ρ1 S = some (.next ρ2 S) ∧ Fr kvs A1 A2 A6 (n + 2) ρ2 := by
  obtain ⟨A4, L, A7, A8, A9, A10, rfl, h1, h2, h3⟩ := h
  refine ⟨_, _, rfl, ?_, A4, _, .v d, A8, A9, A10, rfl, app2 (x := .tup [d, dA, .int 900, .int 901, .int 5]) (y := .tup [d, dA, .int 900, .non, .non]) h1 h2 h3 (bad_of dA_eq dA_ok hp.1 rfl rfl rfl (fun _ e => by cases e) (by unfold rowB; rw [hp.2]; rfl)) (bad_of dA_eq dA_ok hp.1 rfl rfl rfl (fun _ e => by cases e) (by unfold rowB; rw [hp.2]; rfl))⟩
  have c : L.length + 2 ≤ cap := capN (by omega)
  unfold zbJ
  simp -implicitDefEqProofs [gAdd_bl (S := S) (a := L) (b := [.tup [d, dA, .int 900, .int 901, .int 5], .tup [d, dA, .int 900, .non, .non]]) c, dA]
  simp -implicitDefEqProofs [gAdd_bl (S := S) (a := L) (b := [.tup [d, .tup [.str "add", .int 5, .int 1], .int 900, .int 901, .int 5], .tup [d, .tup [.str "add", .int 5, .int 1], .int 900, .non, .non]]) c]
def ans3 (e : D) : D := if e = .non then .non else .int 5
def P3 (p : D) : Prop := ∃ b e, p = .tup [b, e] ∧ okN 59 b = true ∧ okN 59 e = true ∧ rowB (.int 1) (.add 5 1) b e (ans3 e) = false
theorem st3 {A1 A2 A6 : Sl} (d : D) (n : Nat) (ρ : Env) (hp : P3 d) (hn : n ≤ 1000) (h : Fr kvs A1 A2 A6 n ρ) : ∃ ρ1 ρ2, tgTup [9, 10] d ρ = some ρ1 ∧ zbI ρ1 S = some (.next ρ2 S) ∧ Fr kvs A1 A2 A6 (n + 2) ρ2 := by
  obtain ⟨A4, L, A7, A8, A9, A10, rfl, h1, h2, h3⟩ := h
  obtain ⟨b, e, rfl, ob, oe, hr⟩ := hp
  refine ⟨_, _, rfl, ?_, A4, _, A7, A8, .v b, .v e, rfl, app1 (x := .tup [.int 1, dA, b, e, ans3 e]) h1 h2 h3 (bad_of dA_eq dA_ok rfl ob oe (by unfold ans3; split <;> rfl) (fun _ z => by unfold ans3 at z; split at z <;> cases z) hr)⟩
  have c : L.length < cap := capT (by omega)
  unfold zbI
  by_cases q : e = .non
  · subst q
    simp -implicitDefEqProofs [c, dA, ans3]
  · simp -implicitDefEqProofs [c, dA, ans3, q]
def P4 (a : D) : Prop := okS a ∧ belowB 1000 a = false
theorem st4 {A1 A2 A6 : Sl} (d : D) (n : Nat) (ρ : Env) (hp : P4 d) (hn : n ≤ 1000) (h : Fr kvs A1 A2 A6 n ρ) : ∃ ρ1 ρ2, tgName 8 d ρ = some ρ1 ∧ zbH ρ1 S = some (.next ρ2 S) ∧ Fr kvs A1 A2 A6 (n + 2) ρ2 := by
  obtain ⟨A4, L, A7, A8, A9, A10, rfl, h1, h2, h3⟩ := h
  refine ⟨_, _, rfl, ?_, A4, _, A7, .v d, A9, A10, rfl, app1 (x := .tup [.int 1, dA, .int 900, .int 901, d]) h1 h2 h3 (bad_of dA_eq dA_ok rfl rfl rfl hp.1.1 hp.1.2 (by unfold rowB; rw [show ansB (.add 5 1) d = false from hp.2]; rfl))⟩
  have c : L.length < cap := capT (by omega)
  unfold zbH
  simp -implicitDefEqProofs [c, dA]
def P5 (a : D) : Prop := okS a ∧ ansB (.look [4, 5]) a = false ∧ ansB (.put [(4, 1), (5, 2)]) a = false
theorem st5 {A1 A2 A6 : Sl} (d : D) (n : Nat) (ρ : Env) (hp : P5 d) (hn : n ≤ 1000) (h : Fr kvs A1 A2 A6 n ρ) : ∃ ρ1 ρ2, tgName 8 d ρ = some ρ1 ∧ zbG ρ1 S = some (.next ρ2 S) ∧ Fr kvs A1 A2 A6 (n + 2) ρ2 := by
  obtain ⟨A4, L, A7, A8, A9, A10, rfl, h1, h2, h3⟩ := h
  refine ⟨_, _, rfl, ?_, A4, _, A7, .v d, A9, A10, rfl, app2 (x := .tup [.int 1, dL45, .int 900, .int 901, d]) (y := .tup [.int 1, dP45, .int 900, .int 901, d]) h1 h2 h3 (bad_of dL45_eq dL45_ok rfl rfl rfl hp.1.1 hp.1.2 (by unfold rowB; rw [hp.2.1]; rfl)) (bad_of dP45_eq dP45_ok rfl rfl rfl hp.1.1 hp.1.2 (by unfold rowB; rw [hp.2.2]; rfl))⟩
  have c : L.length + 2 ≤ cap := capN (by omega)
  unfold zbG
  simp -implicitDefEqProofs [dL45, dP45]
  rw [gAdd_bl c]
  simp -implicitDefEqProofs
def P6 (a : D) : Prop := okS a ∧ ansB (.move 4 5 1) a = false
theorem st6 {A1 A2 A6 : Sl} (d : D) (n : Nat) (ρ : Env) (hp : P6 d) (hn : n ≤ 1000) (h : Fr kvs A1 A2 A6 n ρ) : ∃ ρ1 ρ2, tgName 8 d ρ = some ρ1 ∧ zbF ρ1 S = some (.next ρ2 S) ∧ Fr kvs A1 A2 A6 (n + 2) ρ2 := by
  obtain ⟨A4, L, A7, A8, A9, A10, rfl, h1, h2, h3⟩ := h
  refine ⟨_, _, rfl, ?_, A4, _, A7, .v d, A9, A10, rfl, app1 (x := .tup [.int 1, dM, .int 900, .int 901, d]) h1 h2 h3 (bad_of dM_eq dM_ok rfl rfl rfl hp.1.1 hp.1.2 (by unfold rowB; rw [hp.2]; rfl))⟩
  have c : L.length < cap := capT (by omega)
  unfold zbF
  simp -implicitDefEqProofs [c, dM]
def P7 (kvs : List (D × D)) (d : D) : Prop := ∃ u l : Int, d = .int u ∧ dLook kvs (.int u) = some (.int l) ∧ 0 ≤ u ∧ u < 100 ∧ 0 ≤ l ∧ l < 900
theorem st7 {A1 A2 A6 : Sl} (d : D) (n : Nat) (ρ : Env) (hp : P7 kvs d) (hn : n ≤ 1000) (h : Fr kvs A1 A2 A6 n ρ) : ∃ ρ1 ρ2, tgName 7 d ρ = some ρ1 ∧ zbE ρ1 S = some (.next ρ2 S) ∧ Fr kvs A1 A2 A6 (n + 2) ρ2 := by
  obtain ⟨A4, L, A7, A8, A9, A10, rfl, h1, h2, h3⟩ := h
  obtain ⟨u, l, rfl, hk, u0, u1, l0, l1⟩ := hp
  have b1 : belowB 100 (.int u) = true := decide_eq_true ⟨u0, u1⟩
  have b2 : belowB 10000 (.int l) = true := decide_eq_true ⟨l0, by omega⟩
  have b3 : belowB 10000 (.int (max 0 (l - 1))) = true := decide_eq_true ⟨by omega, by omega⟩
  have b4 : decide (intD (.int l) < intD (.int 999)) = true := decide_eq_true (by show l < 999; omega)
  refine ⟨_, _, rfl, ?_, A4, _, .v (.int u), A8, A9, A10, rfl, app2 (x := .tup [.int u, dA, .int l, .int 999, .int 0]) (y := .tup [.int u, dL5, .int (max 0 (l - 1)), .non, .non]) h1 h2 h3 (clash_of dA_eq dA_ok rfl rfl (fun _ e => by cases e) (by unfold rowB; rw [b1, b2, b4]; rfl) hk (Int.le_refl _)) (clash_of dL5_eq dL5_ok rfl rfl (fun _ e => by cases e) (by unfold rowB; rw [b1, b3]; rfl) hk (by omega))⟩
  have ixx : gIx S (.bd .K kvs) (.v (.int u)) = some (.v (.int l)) := by
    simp [gIx, R.dicR, keyOk, key1, hk]
  have c : L.length < cap := capT (by omega)
  have c' : L.length + 1 < cap := capT (by omega)
  unfold zbE
  simp -implicitDefEqProofs [c, c', ixx, dA, dL5]
theorem ends_loop {A1 A2 : Sl} {its : List Row} : ∀ (kvs : List (D × D)) (A4 A5 A6 A7 A8 A9 A10 : Sl), kvs.length + its.length ≤ 1000 → ∃ A4', loopF (tgName 4) za7 .no (its.map Row.d) [.v (.ob 0), A1, A2, .d .K kvs, A4, A5, A6, A7, A8, A9, A10] S = some (.next [.v (.ob 0), A1, A2, .d .K (kvF kvs its), A4', A5, A6, A7, A8, A9, A10] S) := by
  induction its with
  | nil => exact fun kvs A4 _ _ _ _ _ _ _ => ⟨A4, rfl⟩
  | cons r its ih =>
    intro kvs A4 A5 A6 A7 A8 A9 A10 hl
    rw [List.length_cons] at hl
    have hlen : (dPut kvs (.int (r.u : Nat)) (.int r.last)).length ≤ kvs.length + 1 := by
      unfold dPut
      split
      · rw [List.length_map]; omega
      · rw [List.length_append]; simp
    obtain ⟨A4', e⟩ := ih (dPut kvs (.int (r.u : Nat)) (.int r.last)) (.v r.d) A5 A6 A7 A8 A9 A10 (by omega)
    refine ⟨A4', ?_⟩
    have c : kvs.length < cap := capT (by omega)
    have hput : putSl (.d .K kvs) (.int (r.u : Nat)) (.int r.last) = some (.d .K (dPut kvs (.int (r.u : Nat)) (.int r.last))) := by
      simp [putSl, keyOk, key1, c]
    have r0 : gIx S (.v r.d) (.v (.int 0)) = some (.v (.int (r.u : Nat))) := by simp [Row.d]
    have r2 : gIx S (.v r.d) (.v (.int 2)) = some (.v (.int r.b)) := by simp [Row.d]
    have r3 : gIx S (.v r.d) (.v (.int 3)) = some (.v r.end_) := by simp [Row.d]
    have lst : (eIf (eUn gIsN (eBin gIx (eVar 4) (eLit (.int 3)))) (eBin gIx (eVar 4) (eLit (.int 2))) (eBin gIx (eVar 4) (eLit (.int 3)))) [.v (.ob 0), A1, A2, .d .K kvs, .v r.d, A5, A6, A7, A8, A9, A10] S = some (.v (.int r.last), S) := by
      cases q : r.e with
      | none => simp -implicitDefEqProofs [r2, r3, Row.end_, Row.last, q]
      | some p => simp -implicitDefEqProofs [r2, r3, Row.end_, Row.last, q]
    have bd : za7 [.v (.ob 0), A1, A2, .d .K kvs, .v r.d, A5, A6, A7, A8, A9, A10] S = some (.next [.v (.ob 0), A1, A2, .d .K (dPut kvs (.int (r.u : Nat)) (.int r.last)), .v r.d, A5, A6, A7, A8, A9, A10] S) := by
      unfold za7
      simp -implicitDefEqProofs [-eIf_, lst, r0, hput]
    rw [List.map_cons, loopF_c]
    show stepL _ _ _ (za7 [.v (.ob 0), A1, A2, .d .K kvs, .v r.d, A5, A6, A7, A8, A9, A10] S) = _
    rw [bd, stepL_x]
    exact e
end
end Ev
namespace Ev
open PySem L2
section
variable {S : Store} {kvs : List (D × D)}
theorem so_1s : PyData.strOk (Str.ofString "1") = true := by decide +kernel
theorem so_5s : PyData.strOk (Str.ofString "5") = true := by decide +kernel
theorem so_yess : PyData.strOk (Str.ofString "yes") = true := by decide +kernel
theorem so_split : PyData.strOk (Str.ofString "split") = true := by decide +kernel
theorem bad_deed {u b e a d : D} (h : ∀ S, zaR [.v d] S = some (.v (.bl false), S)) : BadD kvs (.tup [u, d, b, e, a]) := .inl fun S => row_noplain (h S)
theorem nd_add : zaR [.v (.tup [.str "add", .int 10, .int 1])] S = some (.v (.bl false), S) := by
  rw [deed_str (by simp [okN, okNs]) (by simp)]
  rw [show deedB (.tup [.str "add", .int 10, .int 1]) = false by decide +kernel]
theorem nd_split : zaR [.v (.tup [.str "split", .int 5])] S = some (.v (.bl false), S) := by
  rw [deed_str (by simp [okN, okNs, so_split]) (by simp)]
  rw [show deedB (.tup [.str "split", .int 5]) = false by decide +kernel]
theorem nd_look : zaR [.v (.tup [.str "look", .tup []])] S = some (.v (.bl false), S) := by
  rw [deed_str (by simp [okN, okNs]) (by simp)]
  rw [show deedB (.tup [.str "look", .tup []]) = false by decide +kernel]
def L0 : List D := [.tup [], .tup [.int 1, dA, .int 900, .int 901], .tup [.int 1, .tup [.str "add", .int 10, .int 1], .int 900, .int 901, .int 5], .tup [.int 1, .tup [.str "split", .int 5], .int 900, .int 901, .int 5],
  .tup [.int 1, dA, .int 900, .int 900, .int 5], .tup [.int 1, dA, .int 901, .int 900, .int 5], .tup [.int 1, dA, .int 900, .non, .int 5],
  .tup [.int 1, dL5, .int 900, .int 901, .non], .tup [.int 1, .tup [.str "look", .tup []], .int 900, .non, .non], .tup [.int 1, .tup [], .int 900, .int 901, .int 5]]
theorem L0_bad : ∀ d ∈ L0, BadD kvs d := by
  intro d hd
  unfold L0 at hd
  simp only [List.mem_cons, List.not_mem_nil, or_false] at hd
  have no : ∀ (i : Int) (ys : List D), D.int i = .tup ys → ys.length ≤ 1000 := fun _ _ e => by cases e
  have no2 : ∀ (ys : List D), D.non = .tup ys → ys.length ≤ 1000 := fun _ e => by cases e
  rcases hd with rfl | rfl | rfl | rfl | rfl | rfl | rfl | rfl | rfl | rfl
  · exact .inl fun S => row_len (by simp)
  · exact .inl fun S => row_len (by simp)
  · exact bad_deed fun S => nd_add
  · exact bad_deed fun S => nd_split
  · exact bad_of dA_eq dA_ok rfl rfl rfl rfl (no _) (by decide +kernel)
  · exact bad_of dA_eq dA_ok rfl rfl rfl rfl (no _) (by decide +kernel)
  · exact bad_of dA_eq dA_ok rfl rfl rfl rfl (no _) (by decide +kernel)
  · exact bad_of dL5_eq dL5_ok rfl rfl rfl rfl no2 (by decide +kernel)
  · exact bad_deed fun S => nd_look
  · exact bad_deed fun S => deed_emp
def I2 (f : Int) : List D := [.int (-1 - f), .int (100 + f), .int 100, .int 9999, .bl true, .non, .str "1", .tup [.int 1]]
def I3 (f : Int) : List D := [.tup [.int (-1), .int 901], .tup [.int (-1 - f), .non], .tup [.int 900, .int (10000 + f)], .tup [.int (10000 + f), .non], .tup [.bl true, .int 901], .tup [.non, .int 901]]
def I4 (f : Int) : List D := [.bl true, .int (1000 + f), .int (-1), .tup [.int 5], .str "5", .non]
def I5 (f : Int) : List D := [.int 5, .bl true, .tup [], .tup [.int 1, .int 2, .int 3], .tup [.int 1, .int 1000], .tup [.int 1, .int (-1 - f)], .tup [.int 1, .bl true], .tup [.int 1, .non]]
def I6 : List D := [.int 0, .int 1, .tup [.bl true], .str "yes"]
theorem bel_lo {b f : Int} (h : 0 ≤ f) : belowB b (.int (-1 - f)) = false := decide_eq_false (by omega)
theorem bel_hi {b f : Int} (h : 0 ≤ f) : belowB b (.int (b + f)) = false := decide_eq_false (by omega)
theorem i2_ok {f : Int} (h : 0 ≤ f) : ∀ d ∈ I2 f, P2 d := by
  intro d hd
  unfold I2 at hd
  simp only [List.mem_cons, List.not_mem_nil, or_false] at hd
  rcases hd with rfl | rfl | rfl | rfl | rfl | rfl | rfl | rfl
  · exact ⟨rfl, bel_lo h⟩
  · exact ⟨rfl, bel_hi h⟩
  · exact ⟨rfl, rfl⟩
  · exact ⟨rfl, rfl⟩
  · exact ⟨rfl, rfl⟩
  · exact ⟨rfl, rfl⟩
  · exact ⟨by rw [okN]; exact so_1s, rfl⟩
  · exact ⟨rfl, rfl⟩
theorem i3_ok {f : Int} (h : 0 ≤ f) : ∀ d ∈ I3 f, P3 d := by
  intro d hd
  unfold I3 at hd
  simp only [List.mem_cons, List.not_mem_nil, or_false] at hd
  rcases hd with rfl | rfl | rfl | rfl | rfl | rfl
  · exact ⟨_, _, rfl, rfl, rfl, by decide +kernel⟩
  · exact ⟨_, _, rfl, rfl, rfl, by unfold rowB; rw [bel_lo h]; rfl⟩
  · exact ⟨_, _, rfl, rfl, rfl, by
      have e1 : (D.int (10000 + f) = D.non) = False := eq_false (fun e => by cases e)
      unfold rowB
      rw [bel_hi h]
      simp [e1]⟩
  · exact ⟨_, _, rfl, rfl, rfl, by unfold rowB; rw [bel_hi h]; rfl⟩
  · exact ⟨_, _, rfl, rfl, rfl, by decide +kernel⟩
  · exact ⟨_, _, rfl, rfl, rfl, by decide +kernel⟩
theorem okS_i {i : Int} : okS (.int i) := ⟨rfl, fun _ e => by cases e⟩
theorem okS_b {i : Bool} : okS (.bl i) := ⟨rfl, fun _ e => by cases e⟩
theorem okS_n : okS .non := ⟨rfl, fun _ e => by cases e⟩
theorem okS_s {s : Str} (h : PyData.strOk s = true) : okS (.str s) := ⟨by rw [okN]; exact h, fun _ e => by cases e⟩
theorem okS_t {xs : List D} (h : okNs 58 xs = true) (hl : xs.length ≤ 1000) : okS (.tup xs) := ⟨by rw [okN]; exact h, fun _ e => by cases e; exact hl⟩
theorem i4_ok {f : Int} (h : 0 ≤ f) : ∀ d ∈ I4 f, P4 d := by
  intro d hd
  unfold I4 at hd
  simp only [List.mem_cons, List.not_mem_nil, or_false] at hd
  rcases hd with rfl | rfl | rfl | rfl | rfl | rfl
  · exact ⟨okS_b, rfl⟩
  · exact ⟨okS_i, bel_hi h⟩
  · exact ⟨okS_i, rfl⟩
  · exact ⟨okS_t rfl (by decide), rfl⟩
  · exact ⟨okS_s so_5s, rfl⟩
  · exact ⟨okS_n, rfl⟩
theorem i5_ok {f : Int} (h : 0 ≤ f) : ∀ d ∈ I5 f, P5 d := by
  intro d hd
  unfold I5 at hd
  simp only [List.mem_cons, List.not_mem_nil, or_false] at hd
  rcases hd with rfl | rfl | rfl | rfl | rfl | rfl | rfl | rfl
  · exact ⟨okS_i, rfl, rfl⟩
  · exact ⟨okS_b, rfl, rfl⟩
  · exact ⟨okS_t rfl (by decide), rfl, rfl⟩
  · exact ⟨okS_t rfl (by decide), rfl, rfl⟩
  · exact ⟨okS_t rfl (by decide), rfl, rfl⟩
  · exact ⟨okS_t rfl (by simp), by unfold ansB; simp [bel_lo h], by unfold ansB; simp [bel_lo h]⟩
  · exact ⟨okS_t rfl (by decide), rfl, rfl⟩
  · exact ⟨okS_t rfl (by decide), rfl, rfl⟩
theorem i6_ok : ∀ d ∈ I6, P6 d := by
  intro d hd
  unfold I6 at hd
  simp only [List.mem_cons, List.not_mem_nil, or_false] at hd
  rcases hd with rfl | rfl | rfl | rfl
  · exact ⟨okS_i, rfl⟩
  · exact ⟨okS_i, rfl⟩
  · exact ⟨okS_t rfl (by decide), rfl⟩
  · exact ⟨okS_s so_yess, rfl⟩
theorem ends_sorted {rows : List Row} (hr : ∀ r ∈ rows, r.Ok 29) (hl : rows.length ≤ 12) (hn : Nt kvs rows) : ∃ ds : List D, gSortedD S [.bd .K kvs] = some (.l ds) ∧ (∀ d ∈ ds, P7 kvs d) ∧ ds.length ≤ 12 := by
  have i1 : ∃ ns, ints1 (kvs.map (·.1)) = some ns ∧ kvs.map (·.1) = ns.map D.int := by
    have : ∀ (l : List (D × D)), (∀ p ∈ l, ∃ u : Int, p.1 = .int u) → ∃ ns, ints1 (l.map (·.1)) = some ns ∧ l.map (·.1) = ns.map D.int := by
      intro l
      induction l with
      | nil => exact fun _ => ⟨[], rfl, rfl⟩
      | cons p l ih =>
        intro h
        obtain ⟨ns, h1, h2⟩ := ih fun q hq => h q (by simp [hq])
        obtain ⟨u, hu⟩ := h p (by simp)
        have h3 : (p :: l).map (·.1) = (u :: ns).map D.int := by rw [List.map_cons, h2, hu]; rfl
        exact ⟨u :: ns, by rw [h3]; exact ints1_map _, h3⟩
    exact this kvs fun p hp => by
      obtain ⟨u, l, rfl, _⟩ := hn.1 p hp
      exact ⟨_, rfl⟩
  obtain ⟨ns, e1, e2⟩ := i1
  have hlen : ns.length = kvs.length := by
    have := congrArg List.length e2
    simpa using this.symm
  have hlt : ns.length < 64 := by have := hn.2; omega
  refine ⟨(sortI ns).map D.int, by unfold gSortedD; simp [R.dicR, e1, hlt], fun d hd => ?_, by rw [List.length_map, (zbQ ns).length_eq, hlen]; have := hn.2; omega⟩
  obtain ⟨u, hu, rfl⟩ := List.mem_map.mp hd
  have hu2 := (zbQ ns).mem_iff.mp hu
  have hm : D.int u ∈ kvs.map (·.1) := by rw [e2]; exact List.mem_map.mpr ⟨u, hu2, rfl⟩
  obtain ⟨p, hp, hpu⟩ := List.mem_map.mp hm
  have hs : (kvs.find? fun p => decide (p.1 = D.int u)).isSome = true := by
    rw [List.find?_isSome]
    exact ⟨p, hp, decide_eq_true hpu⟩
  obtain ⟨q, hq⟩ := Option.isSome_iff_exists.mp hs
  obtain ⟨u', l, rfl, r, hr', h1, h2⟩ := hn.1 q (List.mem_of_find?_eq_some hq)
  have hk := List.find?_some hq
  simp at hk
  obtain ⟨g1, g2, g3, g4, g5⟩ := hr r hr'
  refine ⟨u, l, rfl, by unfold dLook; rw [hq]; rfl, by omega, by omega, ?_⟩
  rw [← h2]
  unfold Row.last
  cases q : r.e with
  | none => simp only; omega
  | some p =>
    rw [q] at g5
    simp only at g5 ⊢
    omega
end
end Ev
namespace Ev
open PySem L2
def br_1 : Sx := (sAsg 3 (eDNew .K))
def br_2 : Sx := (sFor (fSeq (eSlice (eVar 1) none (some (eVar 2)))) (tgName 4) za7)
def br_3 : Sx := (sAsg 5 (eLst [(eTup []), (eTup [(eLit (.int 1)), (eTup [(eLit (.str "add")), (eLit (.int 5)), (eLit (.int 1))]), (eLit (.int 900)), (eLit (.int 901))]), (eTup [(eLit (.int 1)), (eTup [(eLit (.str "add")), (eLit (.int 10)), (eLit (.int 1))]), (eLit (.int 900)), (eLit (.int 901)), (eLit (.int 5))]), (eTup [(eLit (.int 1)), (eTup [(eLit (.str "split")), (eLit (.int 5))]), (eLit (.int 900)), (eLit (.int 901)), (eLit (.int 5))])]))
def br_4 : Sx := (sAsg 5 (eBin gAdd (eVar 5) (eLst [(eTup [(eLit (.int 1)), (eTup [(eLit (.str "add")), (eLit (.int 5)), (eLit (.int 1))]), (eLit (.int 900)), (eLit (.int 900)), (eLit (.int 5))]), (eTup [(eLit (.int 1)), (eTup [(eLit (.str "add")), (eLit (.int 5)), (eLit (.int 1))]), (eLit (.int 901)), (eLit (.int 900)), (eLit (.int 5))]), (eTup [(eLit (.int 1)), (eTup [(eLit (.str "add")), (eLit (.int 5)), (eLit (.int 1))]), (eLit (.int 900)), (eLit (.non)), (eLit (.int 5))])])))
def br_5 : Sx := (sAsg 5 (eBin gAdd (eVar 5) (eLst [(eTup [(eLit (.int 1)), (eTup [(eLit (.str "look")), (eTup [(eLit (.int 5))])]), (eLit (.int 900)), (eLit (.int 901)), (eLit (.non))]), (eTup [(eLit (.int 1)), (eTup [(eLit (.str "look")), (eTup [])]), (eLit (.int 900)), (eLit (.non)), (eLit (.non))]), (eTup [(eLit (.int 1)), (eTup []), (eLit (.int 900)), (eLit (.int 901)), (eLit (.int 5))])])))
def br_6 : Sx := (sAsg 6 (eBlt gMax2 [(eLit (.int 0)), (eBin Ev.gSub (eCall zae [] [(eVar 0), (eBin gPow (eLit (.int 10)) (eLit (.int 6)))]) (eLit (.int 500000)))]))
def br_7 : Sx := (sFor (fSeq (eLst [(eBin Ev.gSub (eUn gNeg (eLit (.int 1))) (eVar 6)), (eBin gAdd (eLit (.int 100)) (eVar 6)), (eLit (.int 100)), (eLit (.int 9999)), (eLit (.bl true)), (eLit (.non)), (eLit (.str "1")), (eTup [(eLit (.int 1))])])) (tgName 7) zbJ)
def br_8 : Sx := (sFor (fSeq (eLst [(eTup [(eUn gNeg (eLit (.int 1))), (eLit (.int 901))]), (eTup [(eBin Ev.gSub (eUn gNeg (eLit (.int 1))) (eVar 6)), (eLit (.non))]), (eTup [(eLit (.int 900)), (eBin gAdd (eLit (.int 10000)) (eVar 6))]), (eTup [(eBin gAdd (eLit (.int 10000)) (eVar 6)), (eLit (.non))]), (eTup [(eLit (.bl true)), (eLit (.int 901))]), (eTup [(eLit (.non)), (eLit (.int 901))])])) (tgTup [9, 10]) zbI)
def br_9 : Sx := (sFor (fSeq (eLst [(eLit (.bl true)), (eBin gAdd (eLit (.int 1000)) (eVar 6)), (eUn gNeg (eLit (.int 1))), (eTup [(eLit (.int 5))]), (eLit (.str "5")), (eLit (.non))])) (tgName 8) zbH)
def br_10 : Sx := (sFor (fSeq (eLst [(eLit (.int 5)), (eLit (.bl true)), (eTup []), (eTup [(eLit (.int 1)), (eLit (.int 2)), (eLit (.int 3))]), (eTup [(eLit (.int 1)), (eLit (.int 1000))]), (eTup [(eLit (.int 1)), (eBin Ev.gSub (eUn gNeg (eLit (.int 1))) (eVar 6))]), (eTup [(eLit (.int 1)), (eLit (.bl true))]), (eTup [(eLit (.int 1)), (eLit (.non))])])) (tgName 8) zbG)
def br_11 : Sx := (sFor (fSeq (eLst [(eLit (.int 0)), (eLit (.int 1)), (eTup [(eLit (.bl true))]), (eLit (.str "yes"))])) (tgName 8) zbF)
def br_12 : Sx := (sFor (fSeq (eBlt gSortedD [(eVar 3)])) (tgName 7) zbE)
def br_13 : Sx := (sRet (eBin gIx (eVar 5) (eCall zae [] [(eVar 0), (eBlt gLen [(eVar 5)])])))
theorem bo_br : bo__law_bad_row = (sSeq br_1 (sSeq br_2 (sSeq br_3 (sSeq br_4 (sSeq br_5 (sSeq br_6 (sSeq br_7 (sSeq br_8 (sSeq br_9 (sSeq br_10 (sSeq br_11 (sSeq br_12 br_13)))))))))))) := rfl
section
variable {S : Store} {kvs : List (D × D)}
@[simp] theorem capx6 : (6 ≤ cap) = True := capL (by decide)
@[simp] theorem capx8 : (8 ≤ cap) = True := capL (by decide)
theorem fr_for {A1 A2 A6 : Sl} {fi : Fi} {tg : Tg} {bd : Sx} {its : List D} {n : Nat} {ρ : Env} (P : D → Prop) (hf : fi ρ S = some ((its, .no, true), S)) (hs : ∀ d n ρ, P d → n ≤ 1000 → Fr kvs A1 A2 A6 n ρ → ∃ ρ1 ρ2, tg d ρ = some ρ1 ∧ bd ρ1 S = some (.next ρ2 S) ∧ Fr kvs A1 A2 A6 (n + 2) ρ2) (hp : ∀ d ∈ its, P d) (hn : n + 2 * its.length ≤ 1000) (h : Fr kvs A1 A2 A6 n ρ) : ∃ ρ', (sFor fi tg bd) ρ S = some (.next ρ' S) ∧ Fr kvs A1 A2 A6 (n + 2 * its.length) ρ' := by
  obtain ⟨ρ', e, h'⟩ := fr_loop P hs its n ρ hp hn h
  refine ⟨ρ', ?_, h'⟩
  rw [sFor_, hf, zaG]
  exact e
theorem bad_row_ok {xs : List D} (T : Store) {rows : List Row} (k : Nat) (h : Hist 29 rows) (hl : rows.length ≤ 12) (hd : Dc xs) : ∃ nd xs', zaO [.v (.ob 0), .b (rows.map Row.d), .v (.int (k : Nat))] (.lst xs :: T) = some (.v nd, .lst xs' :: T) ∧ BadD (kvF [] (rows.take k)) nd ∧ Dc xs' := by
  have hN : Nt (kvF [] (rows.take k)) (rows.take k) := kvF_nt (done_ := []) ⟨by simp, by simp⟩
  generalize hkv : kvF [] (rows.take k) = kvs at hN
  have hR : ∀ r ∈ rows.take k, r.Ok 29 := fun r hr => h.1 r (List.mem_of_mem_take hr)
  have hTl : (rows.take k).length ≤ 12 := Nat.le_trans (List.length_take_le' _ _) hl
  obtain ⟨A4, e2⟩ := ends_loop (S := .lst xs :: T) (its := rows.take k) (A1 := .b (rows.map Row.d)) (A2 := .v (.int (k : Nat))) [] .no .no .no .no .no .no .no (by simp; omega)
  rw [hkv] at e2
  have f2 : fSeq (eSlice (eVar 1) none (some (eVar 2))) [.v (.ob 0), .b (rows.map Row.d), .v (.int (k : Nat)), .d .K [], .no, .no, .no, .no, .no, .no, .no] (.lst xs :: T) = some (((rows.take k).map Row.d, .no, true), .lst xs :: T) := by
    simp -implicitDefEqProofs [cut_take, List.map_take]
  have s1 : br_1 [.v (.ob 0), .b (rows.map Row.d), .v (.int (k : Nat)), .no, .no, .no, .no, .no, .no, .no, .no] (.lst xs :: T) = some (.next [.v (.ob 0), .b (rows.map Row.d), .v (.int (k : Nat)), .d .K [], .no, .no, .no, .no, .no, .no, .no] (.lst xs :: T)) := rfl
  have s2 : br_2 [.v (.ob 0), .b (rows.map Row.d), .v (.int (k : Nat)), .d .K [], .no, .no, .no, .no, .no, .no, .no] (.lst xs :: T) = some (.next [.v (.ob 0), .b (rows.map Row.d), .v (.int (k : Nat)), .d .K kvs, A4, .no, .no, .no, .no, .no, .no] (.lst xs :: T)) := by
    unfold br_2
    rw [sFor_, f2, zaG]
    exact e2
  have s3 : br_3 [.v (.ob 0), .b (rows.map Row.d), .v (.int (k : Nat)), .d .K kvs, A4, .no, .no, .no, .no, .no, .no] (.lst xs :: T) = some (.next [.v (.ob 0), .b (rows.map Row.d), .v (.int (k : Nat)), .d .K kvs, A4, .l (L0.take 4), .no, .no, .no, .no, .no] (.lst xs :: T)) := by
    unfold br_3
    simp -implicitDefEqProofs [L0, dA, dL5]
  have s4 : br_4 [.v (.ob 0), .b (rows.map Row.d), .v (.int (k : Nat)), .d .K kvs, A4, .l (L0.take 4), .no, .no, .no, .no, .no] (.lst xs :: T) = some (.next [.v (.ob 0), .b (rows.map Row.d), .v (.int (k : Nat)), .d .K kvs, A4, .l (L0.take 7), .no, .no, .no, .no, .no] (.lst xs :: T)) := by
    unfold br_4
    simp -implicitDefEqProofs [L0, dA, dL5]
    rw [gAdd_bl (capN (by simp))]
    simp
  have s5 : br_5 [.v (.ob 0), .b (rows.map Row.d), .v (.int (k : Nat)), .d .K kvs, A4, .l (L0.take 7), .no, .no, .no, .no, .no] (.lst xs :: T) = some (.next [.v (.ob 0), .b (rows.map Row.d), .v (.int (k : Nat)), .d .K kvs, A4, .l L0, .no, .no, .no, .no, .no] (.lst xs :: T)) := by
    unfold br_5
    simp -implicitDefEqProofs [L0, dA, dL5]
    rw [gAdd_bl (capN (by simp))]
    simp
  obtain ⟨g, x1, e6, g1, g2, hd1⟩ := zbh T 1000000 hd (by decide) (by decide)
  have hf : 0 ≤ max 0 (g - 500000) := Int.le_max_left _ _
  have s6 : br_6 [.v (.ob 0), .b (rows.map Row.d), .v (.int (k : Nat)), .d .K kvs, A4, .l L0, .no, .no, .no, .no, .no] (.lst xs :: T) = some (.next [.v (.ob 0), .b (rows.map Row.d), .v (.int (k : Nat)), .d .K kvs, A4, .l L0, .v (.int (max 0 (g - 500000))), .no, .no, .no, .no] (.lst x1 :: T)) := by
    have pw : gPow (.lst xs :: T) (.v (.int 10)) (.v (.int 6)) = some (.v (.int 1000000)) := rfl
    unfold br_6
    simp -implicitDefEqProofs [pw, e6]
  generalize max 0 (g - 500000) = far at s6 hf
  have F6 : Fr kvs (.b (rows.map Row.d)) (.v (.int (k : Nat))) (.v (.int far)) 10 [.v (.ob 0), .b (rows.map Row.d), .v (.int (k : Nat)), .d .K kvs, A4, .l L0, .v (.int far), .no, .no, .no, .no] := ⟨A4, L0, .no, .no, .no, .no, rfl, L0_bad, by decide, by decide⟩
  obtain ⟨ρ7, s7, F7⟩ := fr_for (S := .lst x1 :: T) (fi := fSeq (eLst [(eBin Ev.gSub (eUn gNeg (eLit (.int 1))) (eVar 6)), (eBin gAdd (eLit (.int 100)) (eVar 6)), (eLit (.int 100)), (eLit (.int 9999)), (eLit (.bl true)), (eLit (.non)), (eLit (.str "1")), (eTup [(eLit (.int 1))])])) (its := I2 far) P2 (by simp -implicitDefEqProofs [I2, gNeg_i]) st2 (i2_ok hf) (by simp [I2]) F6
  have f8 : ∀ {n : Nat} {ρ : Env}, Fr kvs (.b (rows.map Row.d)) (.v (.int (k : Nat))) (.v (.int far)) n ρ → fSeq (eLst [(eTup [(eUn gNeg (eLit (.int 1))), (eLit (.int 901))]), (eTup [(eBin Ev.gSub (eUn gNeg (eLit (.int 1))) (eVar 6)), (eLit (.non))]), (eTup [(eLit (.int 900)), (eBin gAdd (eLit (.int 10000)) (eVar 6))]), (eTup [(eBin gAdd (eLit (.int 10000)) (eVar 6)), (eLit (.non))]), (eTup [(eLit (.bl true)), (eLit (.int 901))]), (eTup [(eLit (.non)), (eLit (.int 901))])]) ρ (.lst x1 :: T) = some ((I3 far, .no, true), .lst x1 :: T) := by
    rintro n ρ ⟨B4, L, B7, B8, B9, B10, rfl, _⟩
    simp -implicitDefEqProofs [I3, gNeg_i]
  have f9 : ∀ {n : Nat} {ρ : Env}, Fr kvs (.b (rows.map Row.d)) (.v (.int (k : Nat))) (.v (.int far)) n ρ → fSeq (eLst [(eLit (.bl true)), (eBin gAdd (eLit (.int 1000)) (eVar 6)), (eUn gNeg (eLit (.int 1))), (eTup [(eLit (.int 5))]), (eLit (.str "5")), (eLit (.non))]) ρ (.lst x1 :: T) = some ((I4 far, .no, true), .lst x1 :: T) := by
    rintro n ρ ⟨B4, L, B7, B8, B9, B10, rfl, _⟩
    simp -implicitDefEqProofs [I4, gNeg_i]
  have f10 : ∀ {n : Nat} {ρ : Env}, Fr kvs (.b (rows.map Row.d)) (.v (.int (k : Nat))) (.v (.int far)) n ρ → fSeq (eLst [(eLit (.int 5)), (eLit (.bl true)), (eTup []), (eTup [(eLit (.int 1)), (eLit (.int 2)), (eLit (.int 3))]), (eTup [(eLit (.int 1)), (eLit (.int 1000))]), (eTup [(eLit (.int 1)), (eBin Ev.gSub (eUn gNeg (eLit (.int 1))) (eVar 6))]), (eTup [(eLit (.int 1)), (eLit (.bl true))]), (eTup [(eLit (.int 1)), (eLit (.non))])]) ρ (.lst x1 :: T) = some ((I5 far, .no, true), .lst x1 :: T) := by
    rintro n ρ ⟨B4, L, B7, B8, B9, B10, rfl, _⟩
    simp -implicitDefEqProofs [I5, gNeg_i]
  have f11 : ∀ {n : Nat} {ρ : Env}, Fr kvs (.b (rows.map Row.d)) (.v (.int (k : Nat))) (.v (.int far)) n ρ → fSeq (eLst [(eLit (.int 0)), (eLit (.int 1)), (eTup [(eLit (.bl true))]), (eLit (.str "yes"))]) ρ (.lst x1 :: T) = some ((I6, .no, true), .lst x1 :: T) := by
    rintro n ρ ⟨B4, L, B7, B8, B9, B10, rfl, _⟩
    simp -implicitDefEqProofs [I6]
  obtain ⟨ds, ed, hds, hdl⟩ := ends_sorted (S := .lst x1 :: T) hR hTl hN
  have f12 : ∀ {n : Nat} {ρ : Env}, Fr kvs (.b (rows.map Row.d)) (.v (.int (k : Nat))) (.v (.int far)) n ρ → fSeq (eBlt gSortedD [(eVar 3)]) ρ (.lst x1 :: T) = some ((ds, .no, true), .lst x1 :: T) := by
    rintro n ρ ⟨B4, L, B7, B8, B9, B10, rfl, _⟩
    simp -implicitDefEqProofs [ed]
  obtain ⟨ρ8, s8, F8⟩ := fr_for P3 (f8 F7) st3 (i3_ok hf) (by simp [I2, I3]) F7
  obtain ⟨ρ9, s9, F9⟩ := fr_for P4 (f9 F8) st4 (i4_ok hf) (by simp [I2, I3, I4]) F8
  obtain ⟨ρ10, s10, F10⟩ := fr_for P5 (f10 F9) st5 (i5_ok hf) (by simp [I2, I3, I4, I5]) F9
  obtain ⟨ρ11, s11, F11⟩ := fr_for P6 (f11 F10) st6 i6_ok (by simp [I2, I3, I4, I5, I6]) F10
  obtain ⟨ρ12, s12, F12⟩ := fr_for (P7 kvs) (f12 F11) st7 hds (by simp [I2, I3, I4, I5, I6]; omega) F11
  obtain ⟨B4, L, B7, B8, B9, B10, rfl, hL, h0, hn⟩ := F12
  have hn2 : L.length ≤ 1000 := Nat.le_trans hn (by simp [I2, I3, I4, I5, I6]; omega)
  obtain ⟨j, x2, e13, j1, j2, hd2⟩ := zbh T (L.length : Nat) hd1 (by omega) (by omega)
  obtain ⟨J, rfl⟩ : ∃ J : Nat, j = J := ⟨j.toNat, by omega⟩
  have hJ : J < L.length := by omega
  have av : atI L (J : Nat) = some L[J] := by rw [atI_nat]; simp [hJ]
  refine ⟨L[J], x2, ?_, hL _ (List.getElem_mem hJ), hd2⟩
  have s13 : br_13 [.v (.ob 0), .b (rows.map Row.d), .v (.int (k : Nat)), .d .K kvs, B4, .l L, .v (.int far), B7, B8, B9, B10] (.lst x1 :: T) = some (.ret (.v L[J]) (.lst x2 :: T)) := by
    unfold br_13
    simp -implicitDefEqProofs [e13, av]
  unfold zaO
  rw [zay (ss := [.v (.ob 0), .b (rows.map Row.d), .v (.int (k : Nat))]) (by simp) (by simp), bo_br]
  have app : ([.v (.ob 0), .b (rows.map Row.d), .v (.int (k : Nat))] : Env) ++ List.replicate (11 - ([.v (.ob 0), .b (rows.map Row.d), .v (.int (k : Nat))] : Env).length) Sl.no = [.v (.ob 0), .b (rows.map Row.d), .v (.int (k : Nat)), .no, .no, .no, .no, .no, .no, .no, .no] := rfl
  rw [app, sSeq_, s1, zbi, sSeq_, s2, zbi, sSeq_, s3, zbi, sSeq_, s4, zbi, sSeq_, s5, zbi, sSeq_, s6, zbi]
  rw [sSeq_, show br_7 _ (.lst x1 :: T) = _ from s7, zbi, sSeq_, show br_8 ρ7 (.lst x1 :: T) = _ from s8, zbi, sSeq_, show br_9 ρ8 (.lst x1 :: T) = _ from s9, zbi, sSeq_, show br_10 ρ9 (.lst x1 :: T) = _ from s10, zbi, sSeq_, show br_11 ρ10 (.lst x1 :: T) = _ from s11, zbi, sSeq_, show br_12 ρ11 (.lst x1 :: T) = _ from s12, zbi, s13]
  rfl
end
end Ev
namespace Ev
open PySem PySem.Spec PyProof.Rows L2 TL
def Deed.w : Deed → Str
  | .look _ => "look"
  | .put _ => "put"
  | .add _ _ => "add"
  | .move _ _ _ => "move"
def Deed.args : Deed → List D
  | .look fs => [.tup (fs.map fD)]
  | .put ps => [.tup (ps.map pD)]
  | .add f w => [.int (f : Nat), .int w]
  | .move a b m => [.int (a : Nat), .int (b : Nat), .int m]
theorem Deed.d_eq (d : Deed) : d.d = .tup (.str d.w :: d.args) := by cases d <;> rfl
theorem sm_f {f : Nat} (h : f < 10) : Sm (f : Nat) := ⟨by omega, by omega⟩
theorem sm_w {w : Int} (h : Wo w) : Sm w := ⟨h.1, by have := h.2; omega⟩
theorem args_ok {d : Deed} (h : d.Ok) : (∀ a ∈ d.args, TxOk a) ∧ d.args.length ≤ 3 := by
  cases d with
  | look fs =>
    refine ⟨fun a ha => ?_, by simp [Deed.args]⟩
    rw [List.mem_singleton.mp ha, fD_ints]
    refine .tis (by rw [List.length_map]; exact h.2.2.1) fun n hn => ?_
    obtain ⟨f, hf, rfl⟩ := List.mem_map.mp hn
    exact sm_f (h.2.2.2 f hf)
  | put ps =>
    refine ⟨fun a ha => ?_, by simp [Deed.args]⟩
    rw [List.mem_singleton.mp ha]
    refine .tps (by have := h.1.2.2.1; rw [List.length_map] at this; exact this) fun p hp => ⟨sm_f (h.1.2.2.2 _ (List.mem_map.mpr ⟨p, hp, rfl⟩)), sm_w (h.2 p hp)⟩
  | add f w =>
    refine ⟨fun a ha => ?_, by simp [Deed.args]⟩
    simp only [Deed.args, List.mem_cons, List.not_mem_nil, or_false] at ha
    rcases ha with rfl | rfl
    · exact .int (sm_f h.1)
    · exact .int (sm_w h.2)
  | move a b m =>
    refine ⟨fun a ha => ?_, by simp [Deed.args]⟩
    simp only [Deed.args, List.mem_cons, List.not_mem_nil, or_false] at ha
    rcases ha with rfl | rfl | rfl
    · exact .int (sm_f h.1)
    · exact .int (sm_f h.2.1)
    · exact .int (sm_w h.2.2.2)
theorem ans_tx {d : Deed} {a : D} (hd : d.Ok) (h : Ans d a) : TxOk a := by
  cases d with
  | look fs =>
    obtain ⟨ns, rfl, h1, h2⟩ := h
    exact .tis (by rw [h1]; exact hd.2.2.1) fun n hn => sm_w (h2 n hn)
  | put ps =>
    obtain ⟨ns, rfl, h1, h2⟩ := h
    have := hd.1.2.2.1
    rw [List.length_map] at this
    exact .tis (by rw [h1]; exact this) fun n hn => sm_w (h2 n hn)
  | add f w => obtain ⟨n, rfl, h1⟩ := h; exact .int (sm_w h1)
  | move f g w => obtain ⟨b, rfl⟩ := h; exact .bl b
theorem row_tx {r : Row} {m : Int} (h : r.Ok m) (hm : m < 10000) : Sm (r.u : Nat) ∧ Sm r.b ∧ TxOk r.end_ ∧ TxOk r.ans := by
  obtain ⟨h1, h2, h3, h4, h5⟩ := h
  refine ⟨⟨by omega, by omega⟩, ⟨by omega, by omega⟩, ?_⟩
  unfold Row.end_ Row.ans
  cases q : r.e with
  | none => exact ⟨.non, .non⟩
  | some p =>
    rw [q] at h5
    simp only at h5 ⊢
    exact ⟨.int ⟨by omega, by omega⟩, ans_tx h2 h5.2.2⟩
section
variable {S : Store}
theorem word_D {d : D} (h : TxOk d) : zax [.v d] S = some (.v (.str (wordD d)), S) ∧ (wordD d).length ≤ 60 := by
  cases h with
  | non =>
    refine ⟨?_, by show (Str.ofString "-").length ≤ 60; rw [PySem.ofString_length]; decide⟩
    unfold zax bo_word_of
    rw [zay (ss := [.v .non]) (by simp) (by simp)]
    simp -implicitDefEqProofs [wordD]
  | bl b =>
    refine ⟨?_, by cases b; (show (Str.ofString "no").length ≤ 60; rw [PySem.ofString_length]; decide); (show (Str.ofString "yes").length ≤ 60; rw [PySem.ofString_length]; decide)⟩
    unfold zax bo_word_of
    rw [zay (ss := [.v (.bl b)]) (by simp) (by simp)]
    cases b <;> simp -implicitDefEqProofs [isTy, wordD]
  | int hi => exact ⟨word_int hi, Nat.le_trans (strI_len hi.1 hi.2) (by decide)⟩
  | @tis ns hl hn =>
    have e : wordD (.tup (ns.map D.int)) = Txt.join "," (ns.map strI) := by
      simp only [wordD, List.map_map]
      rfl
    rw [e]
    exact ⟨(word_ints hl hn).1, Nat.le_trans (word_ints (S := S) hl hn).2 (by decide)⟩
  | @tps ps hl hn =>
    have e : wordD (.tup (ps.map pD)) = Txt.join "," (ps.map strP) := by
      simp only [wordD, List.map_map]
      rfl
    rw [e]
    exact word_prs hl hn
def rowTs (r : Row) : List Str := ([strI (r.u : Nat), strI r.b, wordD r.end_, r.dd.w] ++ r.dd.args.map wordD) ++ [wordD r.ans]
theorem rowTs_len {r : Row} {m : Int} (h : r.Ok m) (hm : m < 10000) : (rowTs r).length ≤ 8 ∧ ∀ t ∈ rowTs r, t.length ≤ 60 := by
  obtain ⟨t1, t2, t3, t4⟩ := row_tx h hm
  obtain ⟨a1, a2⟩ := args_ok h.2.1
  refine ⟨by unfold rowTs; simp; omega, fun t ht => ?_⟩
  unfold rowTs at ht
  rcases List.mem_append.mp ht with ht | ht
  · rcases List.mem_append.mp ht with ht | ht
    · simp only [List.mem_cons, List.not_mem_nil, or_false] at ht
      rcases ht with rfl | rfl | rfl | rfl
      · exact Nat.le_trans (strI_len t1.1 t1.2) (by decide)
      · exact Nat.le_trans (strI_len t2.1 t2.2) (by decide)
      · exact (word_D (S := []) t3).2
      · cases r.dd <;> simp only [Deed.w] <;> rw [PySem.ofString_length] <;> decide
    · obtain ⟨a, ha, rfl⟩ := List.mem_map.mp ht
      exact (word_D (S := []) (a1 a ha)).2
  · rw [List.mem_singleton.mp ht]
    exact (word_D (S := []) t4).2
theorem words_ok {r : Row} {m : Int} (h : r.Ok m) (hm : m < 10000) : zbf [.v r.d] S = some (.l ((rowTs r).map D.str), S) := by
  obtain ⟨t1, t2, t3, t4⟩ := row_tx h hm
  obtain ⟨a1, a2⟩ := args_ok h.2.1
  unfold zbf bo_words_of
  rw [zay (ss := [.v r.d]) (by simp) (by simp)]
  have s1 : (sUnp [1, 2, 3, 4, 5] (eVar 0)) [.v r.d, .no, .no, .no, .no, .no, .no] S = some (.next [.v r.d, .v (.int (r.u : Nat)), .v r.dd.d, .v (.int r.b), .v r.end_, .v r.ans, .no] S) := by
    simp -implicitDefEqProofs [Row.d]
  have g1 := gStr_i (S := S) t1
  have g2 := gStr_i (S := S) t2
  have g3 := (word_D (S := S) t3).1
  have g4 := (word_D (S := S) t4).1
  have i0 : gIx S (.v r.dd.d) (.v (.int 0)) = some (.v (.str r.dd.w)) := by rw [r.dd.d_eq]; simp
  have e1 : (eLst [(eBlt gStr [(eVar 1)]), (eBlt gStr [(eVar 3)]), (eCall zax [] [(eVar 4)]), (eBin gIx (eVar 2) (eLit (.int 0)))]) [.v r.d, .v (.int (r.u : Nat)), .v r.dd.d, .v (.int r.b), .v r.end_, .v r.ans, .no] S = some (.l ([strI (r.u : Nat), strI r.b, wordD r.end_, r.dd.w].map D.str), S) := by
    simp -implicitDefEqProofs [g1, g2, g3, i0]
  have e2 : (eLst [(eCall zax [] [(eVar 5)])]) [.v r.d, .v (.int (r.u : Nat)), .v r.dd.d, .v (.int r.b), .v r.end_, .v r.ans, .no] S = some (.l ([wordD r.ans].map D.str), S) := by
    simp -implicitDefEqProofs [g4]
  have sl : gSl S (.v r.dd.d) (some 1) none = some (.v (.tup r.dd.args)) := by
    rw [r.dd.d_eq, gSl_t]
    cases r.dd <;> rfl
  have f3 : fSeq (eSlice (eVar 2) (some (eLit (.int 1))) none) [.v r.d, .v (.int (r.u : Nat)), .v r.dd.d, .v (.int r.b), .v r.end_, .v r.ans, .no] S = some ((r.dd.args, .no, true), S) := by
    simp -implicitDefEqProofs [sl]
  have cm := comp_map (S := S) (ρ := [.v r.d, .v (.int (r.u : Nat)), .v r.dd.d, .v (.int r.b), .v r.end_, .v r.ans, .no]) (tg := tgName 6) (fe := eCall zax [] [(eVar 6)]) id (fun a => D.str (wordD a)) (xs := r.dd.args) fun a ha => ⟨_, rfl, by
    have := (word_D (S := S) (a1 a ha)).1
    simp -implicitDefEqProofs [this]⟩
  rw [List.map_id] at cm
  have e3 : (eComp (fSeq (eSlice (eVar 2) (some (eLit (.int 1))) none)) (tgName 6) [6] eTrue (eCall zax [] [(eVar 6)])) [.v r.d, .v (.int (r.u : Nat)), .v r.dd.d, .v (.int r.b), .v r.end_, .v r.ans, .no] S = some (.l ((r.dd.args.map wordD).map D.str), S) := by
    rw [eComp_, f3, zaG, if_pos (show r.dd.args.length ≤ cap from capN (by omega)), show wipeE [.v r.d, .v (.int (r.u : Nat)), .v r.dd.d, .v (.int r.b), .v r.end_, .v r.ans, .no] [6] = [.v r.d, .v (.int (r.u : Nat)), .v r.dd.d, .v (.int r.b), .v r.end_, .v r.ans, .no] from rfl]
    rw [show compF (tgName 6) eTrue (eCall zax [] [(eVar 6)]) .no [.v r.d, .v (.int (r.u : Nat)), .v r.dd.d, .v (.int r.b), .v r.end_, .v r.ans, .no] r.dd.args S = _ from cm, zaG, List.map_map]
    rfl
  have app : ([.v r.d] : Env) ++ List.replicate (7 - ([.v r.d] : Env).length) Sl.no = [.v r.d, .no, .no, .no, .no, .no, .no] := rfl
  rw [app, sSeq_, s1, zbi, sRet_, eBin_, eBin_, e1, zaG, e3, zaG, gAdd_ll (capN (by simp; omega)), Option.map_some, zaG, e2, zaG, gAdd_ll (capN (by simp; omega)), Option.map_some, zaG]
  unfold rowTs
  rw [← List.map_append, ← List.map_append]
  rfl
def rowT (r : Row) : Str := Txt.join " " (rowTs r)
theorem rowT_bd {r : Row} {m : Int} (h : r.Ok m) (hm : m < 10000) : ((rowTs r).map (·.length)).sum + (rowTs r).length * (Str.ofString " ").length ≤ 488 := by
  obtain ⟨h1, h2⟩ := rowTs_len h hm
  exact Nat.le_trans (join_bd (n := 8) (B := 60) h1 h2) (by rw [len_1 rfl]; decide)
def histT (R : List Row) : Str := Txt.join "\n" (R.map rowT)
theorem histT_bd {R : List Row} {m : Int} (h : ∀ r ∈ R, r.Ok m) (hl : R.length ≤ 12) (hm : m < 10000) : ((R.map rowT).map (·.length)).sum + (R.map rowT).length * (Str.ofString "\n").length ≤ 16777216 := by
  refine Nat.le_trans (join_bd (n := 12) (B := 488) (by rw [List.length_map]; exact hl) fun y hy => ?_) (by rw [len_1 rfl]; decide)
  obtain ⟨r, hr, rfl⟩ := List.mem_map.mp hy
  exact Nat.le_trans (join_len _ _) (rowT_bd (h r hr) hm)
theorem written_ok {R : List Row} {m : Int} (hm : m < 10000) (h : Hist m R) (hl : R.length ≤ 12) : zbR [.b (R.map Row.d)] S = some (.v (.str (histT R)), S) := by
  unfold zbR bo_written
  rw [zay (ss := [.b (R.map Row.d)]) (by simp) (by simp)]
  have nd := need_ok (S := S) hm h hl
  have f : fVar 0 [.b (R.map Row.d), .no] S = some ((R.map Row.d, .no, true), S) := fVar_b rfl
  have cm := comp_map (S := S) (ρ := [.b (R.map Row.d), .no]) (tg := tgName 1) (fe := eJoin (eLit (.str " ")) (eCall zbf [] [(eVar 1)])) Row.d (fun r => D.str (rowT r)) (xs := R) fun r hr => ⟨_, rfl, by
    have w := words_ok (S := S) (h.1 r hr) hm
    have j := joinR_l (S := S) (a := " ") (ys := rowTs r) (Nat.le_trans (rowT_bd (h.1 r hr) hm) (by decide))
    simp -implicitDefEqProofs [w]
    rw [j]
    rfl⟩
  have e3 : (eComp (fVar 0) (tgName 1) [1] eTrue (eJoin (eLit (.str " ")) (eCall zbf [] [(eVar 1)]))) [.b (R.map Row.d), .no] S = some (.l ((R.map rowT).map D.str), S) := by
    rw [eComp_, f, zaG, List.length_map, if_pos (show R.length ≤ cap from capN (by omega)), show wipeE [.b (R.map Row.d), .no] [1] = [.b (R.map Row.d), .no] from rfl]
    rw [show compF (tgName 1) eTrue (eJoin (eLit (.str " ")) (eCall zbf [] [(eVar 1)])) .no [.b (R.map Row.d), .no] (R.map Row.d) S = _ from cm, zaG, List.map_map]
    rfl
  have jn := joinR_l (S := S) (a := "\n") (ys := R.map rowT) (histT_bd h.1 hl hm)
  have app : ([.b (R.map Row.d)] : Env) ++ List.replicate (2 - ([.b (R.map Row.d)] : Env).length) Sl.no = [.b (R.map Row.d), .no] := rfl
  rw [app, sSeq_, show (sExpr (eCall zaE [] [(eVar 0)])) [.b (R.map Row.d), .no] S = some (.next [.b (R.map Row.d), .no] S) by simp -implicitDefEqProofs [nd], zbi, sRet_, eJoin_, eLit_, zaG, e3, zaG, jn]
  rfl
end
end Ev
namespace Ev
open PySem L2
section
variable {S : Store}
theorem dice_loop : ∀ (ns : List Int) (a : Int) (A0 A1 A3 : Sl), 0 ≤ a → ∃ a' B3, loopF (tgName 3) zbu .no (ns.map D.int) [A0, A1, .v (.int a), A3] S = some (.next [A0, A1, .v (.int a'), B3] S) ∧ 0 ≤ a'
  | [], a, A0, A1, A3, h => ⟨a, A3, rfl, h⟩
  | n :: ns, a, A0, A1, A3, h => by
    obtain ⟨a', B3, ih, h'⟩ := dice_loop ns ((a * 31 + (if n < 0 then -n else n)) % 2147483647) A0 A1 (.v (.int n)) (Int.emod_nonneg _ (by decide))
    refine ⟨a', B3, ?_, h'⟩
    rw [List.map_cons, loopF_c]
    have body : zbu [A0, A1, .v (.int a), .v (.int n)] S = some (.next [A0, A1, .v (.int ((a * 31 + (if n < 0 then -n else n)) % 2147483647)), .v (.int n)] S) := by
      unfold zbu
      have g1 : gMul S (.v (.int a)) (.v (.int 31)) = some (.v (.int (a * 31))) := gMulI (by simp [small64])
      have g2 : ∀ i : Int, gMod S (.v (.int i)) (.v (.int 2147483647)) = some (.v (.int (i % 2147483647))) := fun i => gModI (by decide)
      simp -implicitDefEqProofs [g1, g2]
    have tg : tgName 3 (.int n) [A0, A1, .v (.int a), A3] = some [A0, A1, .v (.int a), .v (.int n)] := rfl
    rw [tg, Option.bind_some, body, stepL_x, ih]
theorem dice_ok {ns : List Int} (hl : ns.length ≤ 63) : ∃ xs, zaT [.f (ns.map D.int), .v (.int 0)] S = some (.l xs, S) ∧ Dc xs := by
  obtain ⟨a, B3, lp, ha⟩ := dice_loop (S := S) ns 0 (.f (ns.map D.int)) (.v (.int 0)) .no (by decide)
  refine ⟨.int a :: .int 0 :: (ns.filter fun n => decide (10 ^ 18 ≤ n)).map D.int, ?_, a, 0, _, rfl, ha, by decide, fun x hx => ?_⟩
  · unfold zaT bo__law_dice
    rw [zay (ss := [.f (ns.map D.int), .v (.int 0)]) (by simp) (by simp)]
    have f1 : fVar 0 [.f (ns.map D.int), .v (.int 0), .v (.int 0), .no] S = some ((ns.map D.int, .no, true), S) := fVar_f rfl
    have f2 : fVar 0 [.f (ns.map D.int), .v (.int 0), .v (.int a), B3] S = some ((ns.map D.int, .no, true), S) := fVar_f rfl
    have cm := zbd (S := S) (ρ := [.f (ns.map D.int), .v (.int 0), .v (.int a), .no]) (tg := tgName 3) (ft := eBin gGe (eVar 3) (eBin gPow (eLit (.int 10)) (eLit (.int 18)))) (fe := eVar 3) D.int (fun n => decide (10 ^ 18 ≤ n)) D.int (xs := ns) fun n hn => ⟨_, rfl, by
      have pw : gPow S (.v (.int 10)) (.v (.int 18)) = some (.v (.int (10 ^ 18))) := rfl
      simp -implicitDefEqProofs only [List.set_cons_succ, List.set_cons_zero, eBin_, eVar_, eLit_, List.getElem?_cons_succ, List.getElem?_cons_zero, rdSl_v, Option.map_some, zaG, pw, gGeI], fun _ => by simp⟩
    have hc : ns.length ≤ cap := Nat.le_trans hl (by decide)
    have hc2 : 2 + (ns.filter fun n => decide (10 ^ 18 ≤ n)).length ≤ cap := Nat.le_trans (Nat.add_le_add_left (Nat.le_trans (List.length_filter_le _ _) hl) 2) (by decide)
    have cat : gAdd S (.l [.int a, .int 0]) (.l ((ns.filter fun n => decide (10 ^ 18 ≤ n)).map D.int)) = some (.l (.int a :: .int 0 :: (ns.filter fun n => decide (10 ^ 18 ≤ n)).map D.int)) := by
      have c : (Ev.R.l [D.int a, D.int 0]).cat S (.l ((ns.filter fun n => decide (10 ^ 18 ≤ n)).map D.int)) = some (.l (.int a :: .int 0 :: (ns.filter fun n => decide (10 ^ 18 ≤ n)).map D.int)) := by
        unfold R.cat
        simp only [R.tlst, List.length_cons, List.length_nil, List.length_map, Nat.zero_add, if_pos hc2]
        rfl
      exact c
    have wp : wipeE [.f (ns.map D.int), .v (.int 0), .v (.int a), B3] [3] = [.f (ns.map D.int), .v (.int 0), .v (.int a), .no] := rfl
    have s2 : (sFor (fVar 0) (tgName 3) zbu) [.f (ns.map D.int), .v (.int 0), .v (.int 0), .no] S = some (.next [.f (ns.map D.int), .v (.int 0), .v (.int a), B3] S) := by
      rw [sFor_, f1, zaG]
      exact lp
    have s3 : (eBin gAdd (eLst [eVar 2, eLit (.int 0)]) (eComp (fVar 0) (tgName 3) [3] (eBin gGe (eVar 3) (eBin gPow (eLit (.int 10)) (eLit (.int 18)))) (eVar 3))) [.f (ns.map D.int), .v (.int 0), .v (.int a), B3] S = some (.l (.int a :: .int 0 :: (ns.filter fun n => decide (10 ^ 18 ≤ n)).map D.int), S) := by
      have e1 : (eLst [eVar 2, eLit (.int 0)]) [.f (ns.map D.int), .v (.int 0), .v (.int a), B3] S = some (.l [.int a, .int 0], S) := by simp -implicitDefEqProofs
      have e2 : (eComp (fVar 0) (tgName 3) [3] (eBin gGe (eVar 3) (eBin gPow (eLit (.int 10)) (eLit (.int 18)))) (eVar 3)) [.f (ns.map D.int), .v (.int 0), .v (.int a), B3] S = some (.l ((ns.filter fun n => decide (10 ^ 18 ≤ n)).map D.int), S) := by
        rw [eComp_, f2, zaG, wp]
        simp only [List.length_map]
        rw [if_pos hc, cm, zaG]
      rw [eBin_, e1, zaG, e2, zaG, cat]
      rfl
    have app : ([.f (ns.map D.int), .v (.int 0)] : Env) ++ List.replicate (4 - ([.f (ns.map D.int), .v (.int 0)] : Env).length) Sl.no = [.f (ns.map D.int), .v (.int 0), .no, .no] := rfl
    rw [app]
    have s1 : (sAsg 2 (eVar 1)) [.f (ns.map D.int), .v (.int 0), .no, .no] S = some (.next [.f (ns.map D.int), .v (.int 0), .v (.int 0), .no] S) := rfl
    rw [sSeq_, s1, zbi, sSeq_, s2, zbi, sRet_, s3, zaG]
    rfl
  · have := (List.mem_filter.mp hx).2
    simp at this
    omega
theorem dice_okb {ns : List Int} (hl : ns.length ≤ 63) : ∃ xs, zaT [.b (ns.map D.int), .v (.int 0)] S = some (.l xs, S) ∧ Dc xs := by
  obtain ⟨a, B3, lp, ha⟩ := dice_loop (S := S) ns 0 (.b (ns.map D.int)) (.v (.int 0)) .no (by decide)
  refine ⟨.int a :: .int 0 :: (ns.filter fun n => decide (10 ^ 18 ≤ n)).map D.int, ?_, a, 0, _, rfl, ha, by decide, fun x hx => ?_⟩
  · unfold zaT bo__law_dice
    rw [zay (ss := [.b (ns.map D.int), .v (.int 0)]) (by simp) (by simp)]
    have f1 : fVar 0 [.b (ns.map D.int), .v (.int 0), .v (.int 0), .no] S = some ((ns.map D.int, .no, true), S) := fVar_b rfl
    have f2 : fVar 0 [.b (ns.map D.int), .v (.int 0), .v (.int a), B3] S = some ((ns.map D.int, .no, true), S) := fVar_b rfl
    have cm := zbd (S := S) (ρ := [.b (ns.map D.int), .v (.int 0), .v (.int a), .no]) (tg := tgName 3) (ft := eBin gGe (eVar 3) (eBin gPow (eLit (.int 10)) (eLit (.int 18)))) (fe := eVar 3) D.int (fun n => decide (10 ^ 18 ≤ n)) D.int (xs := ns) fun n hn => ⟨_, rfl, by
      have pw : gPow S (.v (.int 10)) (.v (.int 18)) = some (.v (.int (10 ^ 18))) := rfl
      simp -implicitDefEqProofs only [List.set_cons_succ, List.set_cons_zero, eBin_, eVar_, eLit_, List.getElem?_cons_succ, List.getElem?_cons_zero, rdSl_v, Option.map_some, zaG, pw, gGeI], fun _ => by simp⟩
    have hc : ns.length ≤ cap := Nat.le_trans hl (by decide)
    have hc2 : 2 + (ns.filter fun n => decide (10 ^ 18 ≤ n)).length ≤ cap := Nat.le_trans (Nat.add_le_add_left (Nat.le_trans (List.length_filter_le _ _) hl) 2) (by decide)
    have cat : gAdd S (.l [.int a, .int 0]) (.l ((ns.filter fun n => decide (10 ^ 18 ≤ n)).map D.int)) = some (.l (.int a :: .int 0 :: (ns.filter fun n => decide (10 ^ 18 ≤ n)).map D.int)) := by
      have c : (Ev.R.l [D.int a, D.int 0]).cat S (.l ((ns.filter fun n => decide (10 ^ 18 ≤ n)).map D.int)) = some (.l (.int a :: .int 0 :: (ns.filter fun n => decide (10 ^ 18 ≤ n)).map D.int)) := by
        unfold R.cat
        simp only [R.tlst, List.length_cons, List.length_nil, List.length_map, Nat.zero_add, if_pos hc2]
        rfl
      exact c
    have wp : wipeE [.b (ns.map D.int), .v (.int 0), .v (.int a), B3] [3] = [.b (ns.map D.int), .v (.int 0), .v (.int a), .no] := rfl
    have s2 : (sFor (fVar 0) (tgName 3) zbu) [.b (ns.map D.int), .v (.int 0), .v (.int 0), .no] S = some (.next [.b (ns.map D.int), .v (.int 0), .v (.int a), B3] S) := by
      rw [sFor_, f1, zaG]
      exact lp
    have s3 : (eBin gAdd (eLst [eVar 2, eLit (.int 0)]) (eComp (fVar 0) (tgName 3) [3] (eBin gGe (eVar 3) (eBin gPow (eLit (.int 10)) (eLit (.int 18)))) (eVar 3))) [.b (ns.map D.int), .v (.int 0), .v (.int a), B3] S = some (.l (.int a :: .int 0 :: (ns.filter fun n => decide (10 ^ 18 ≤ n)).map D.int), S) := by
      have e1 : (eLst [eVar 2, eLit (.int 0)]) [.b (ns.map D.int), .v (.int 0), .v (.int a), B3] S = some (.l [.int a, .int 0], S) := by simp -implicitDefEqProofs [cap]
      have e2 : (eComp (fVar 0) (tgName 3) [3] (eBin gGe (eVar 3) (eBin gPow (eLit (.int 10)) (eLit (.int 18)))) (eVar 3)) [.b (ns.map D.int), .v (.int 0), .v (.int a), B3] S = some (.l ((ns.filter fun n => decide (10 ^ 18 ≤ n)).map D.int), S) := by
        rw [eComp_, f2, zaG, wp]
        simp only [List.length_map]
        rw [if_pos hc, cm, zaG]
      rw [eBin_, e1, zaG, e2, zaG, cat]
      rfl
    have app : ([.b (ns.map D.int), .v (.int 0)] : Env) ++ List.replicate (4 - ([.b (ns.map D.int), .v (.int 0)] : Env).length) Sl.no = [.b (ns.map D.int), .v (.int 0), .no, .no] := rfl
    rw [app]
    have s1 : (sAsg 2 (eVar 1)) [.b (ns.map D.int), .v (.int 0), .no, .no] S = some (.next [.b (ns.map D.int), .v (.int 0), .v (.int 0), .no] S) := rfl
    rw [sSeq_, s1, zbi, sSeq_, s2, zbi, sRet_, s3, zaG]
    rfl
  · have := (List.mem_filter.mp hx).2
    simp at this
    omega
end
end Ev
namespace Ev
open PySem L2
section
variable {S : Store}
theorem cut_drop3 {xs : List D} {m : Nat} (h : m ≤ xs.length) : cutD xs (some (m : Int)) none = xs.drop m := by
  unfold cutD
  rw [HT.sIx_none, HT.sIx_nat, Nat.min_eq_left h]
  exact List.take_of_length_le (by rw [List.length_drop]; exact Nat.le_refl _)
theorem rep_emp {j : Int} (h : 0 ≤ j) (h2 : j < 2) : ∃ r, gMul S (.l [.tup []]) (.v (.int j)) = some (.l r) ∧ r.length ≤ 1 := by
  have : j = 0 ∨ j = 1 := by omega
  rcases this with rfl | rfl
  · exact ⟨[], rfl, by decide⟩
  · exact ⟨[.tup []], rfl, by decide⟩
theorem law1_ok {s0 A2 A3 A4 A5 A7 A8 : Sl} {xs : List D} {T : Store} (hd : Dc xs) : ∃ (rows : List Row) (k : Nat) (nd : D) (rest xs' : List D), bo_law_1 [s0, .v (.ob 0), A2, A3, A4, A5, .no, A7, A8, .no] (.lst xs :: T) = some (.next [s0, .v (.ob 0), A2, .l (rows.map Row.d), .v (.int (k : Nat)), .l ((rows.take k).map Row.d ++ nd :: rest), .no, A7, A8, .no] (.lst xs' :: T)) ∧ Hist 29 rows ∧ rows.length ≤ 12 ∧ k ≤ rows.length ∧ BadD (kvF [] (rows.take k)) nd ∧ Dc xs' := by
  obtain ⟨rows, x1, e1, hh, hl, hf3, hd1⟩ := hist_ok T 11 (by decide) hd
  obtain ⟨k0, x2, e2, k1, k2, hd2⟩ := zbh T ((rows.length : Int) + 1) hd1 (by omega) (by omega)
  obtain ⟨k, rfl⟩ : ∃ k : Nat, k0 = k := ⟨k0.toNat, by omega⟩
  have hk : k ≤ rows.length := by omega
  obtain ⟨nd, x3, e3, hb, hd3⟩ := bad_row_ok T k hh hl hd2
  obtain ⟨j, x4, e4, j1, j2, hd4⟩ := zbh T 2 hd3 (by decide) (by decide)
  obtain ⟨r, e5, hr⟩ := rep_emp (S := .lst x4 :: T) j1 j2
  refine ⟨rows, k, nd, (rows.drop k).map Row.d ++ r, x4, ?_, hh, hl, hk, hb, hd4⟩
  have e1' : zaJ [.v (.ob 0), .v (.int 11)] (.lst xs :: T) = some (.l (rows.map Row.d), .lst x1 :: T) := e1
  unfold bo_law_1
  have s1 : (sAsg 3 (eCall zaJ [] [(eVar 1), (eLit (.int 11))])) [s0, .v (.ob 0), A2, A3, A4, A5, .no, A7, A8, .no] (.lst xs :: T) = some (.next [s0, .v (.ob 0), A2, .l (rows.map Row.d), A4, A5, .no, A7, A8, .no] (.lst x1 :: T)) := by
    simp -implicitDefEqProofs [e1']
  have s2 : (sAsg 4 (eCall zae [] [(eVar 1), (eBin gAdd (eBlt gLen [(eVar 3)]) (eLit (.int 1)))])) [s0, .v (.ob 0), A2, .l (rows.map Row.d), A4, A5, .no, A7, A8, .no] (.lst x1 :: T) = some (.next [s0, .v (.ob 0), A2, .l (rows.map Row.d), .v (.int (k : Nat)), A5, .no, A7, A8, .no] (.lst x2 :: T)) := by
    simp -implicitDefEqProofs [e2]
  have c1 : cutD (rows.map Row.d) none (some (k : Int)) = (rows.take k).map Row.d := by rw [cut_take, List.map_take]
  have c2 : cutD (rows.map Row.d) (some (k : Int)) none = (rows.drop k).map Row.d := by rw [cut_drop3 (by rw [List.length_map]; exact hk), List.map_drop]
  have p1 : (eSlice (eVar 3) none (some (eVar 4))) [s0, .v (.ob 0), A2, .l (rows.map Row.d), .v (.int (k : Nat)), A5, .no, A7, A8, .no] (.lst x2 :: T) = some (.l ((rows.take k).map Row.d), .lst x2 :: T) := by
    simp -implicitDefEqProofs [-List.map_take, c1]
  have p2 : (eLst [(eCall zaO [] [(eVar 1), (eVar 3), (eVar 4)])]) [s0, .v (.ob 0), A2, .l (rows.map Row.d), .v (.int (k : Nat)), A5, .no, A7, A8, .no] (.lst x2 :: T) = some (.l [nd], .lst x3 :: T) := by
    simp -implicitDefEqProofs [e3]
  have p3 : (eSlice (eVar 3) (some (eVar 4)) none) [s0, .v (.ob 0), A2, .l (rows.map Row.d), .v (.int (k : Nat)), A5, .no, A7, A8, .no] (.lst x3 :: T) = some (.l ((rows.drop k).map Row.d), .lst x3 :: T) := by
    simp -implicitDefEqProofs [-List.map_drop, c2]
  have p4 : (eBin gMul (eLst [(eTup [])]) (eCall zae [] [(eVar 1), (eLit (.int 2))])) [s0, .v (.ob 0), A2, .l (rows.map Row.d), .v (.int (k : Nat)), A5, .no, A7, A8, .no] (.lst x3 :: T) = some (.l r, .lst x4 :: T) := by
    simp -implicitDefEqProofs [e4, e5]
  have l1 : (rows.take k).length ≤ 12 := Nat.le_trans (List.length_take_le' _ _) hl
  have l2 : (rows.drop k).length ≤ 12 := by rw [List.length_drop]; omega
  rw [sSeq_, s1, zbi, sSeq_, s2, zbi, sAsg_, eBin_, eBin_, eBin_, p1, zaG, p2, zaG, gAdd_ll (capN (by rw [List.length_map]; simp; omega)), Option.map_some, zaG, p3, zaG, gAdd_ll (capN (by rw [List.length_append, List.length_map, List.length_map]; simp; omega)), Option.map_some, zaG, p4, zaG, gAdd_ll (capN (by rw [List.length_append, List.length_append, List.length_map, List.length_map]; simp; omega)), Option.map_some, zaG]
  rw [List.append_assoc, List.append_assoc, List.singleton_append]
  rfl
theorem take_hist {m : Int} {rows : List Row} (h : Hist m rows) (k : Nat) : Hist m (rows.take k) := ⟨fun r hr => h.1 r (List.mem_of_mem_take hr), h.2.sublist (List.take_sublist _ _)⟩
def lgR (k : Nat) : Row := ⟨2, .look [7], 2 * (k : Int), some (2 * (k : Int) + 1, .tup [.int 0])⟩
def lg12 : List Row := (List.range 12).map lgR
theorem lg_hist : Hist 29 lg12 := by
  refine ⟨fun r hr => ?_, ?_⟩
  · obtain ⟨k, hk, rfl⟩ := List.mem_map.mp hr
    have := List.mem_range.mp hk
    refine ⟨by show 2 < 100; decide, ⟨by simp, by decide, by decide, by simp⟩, by show 0 ≤ 2 * (k : Int); omega, by show 2 * (k : Int) ≤ 29; omega, ?_⟩
    show 2 * (k : Int) < 2 * (k : Int) + 1 ∧ 2 * (k : Int) + 1 ≤ 29 ∧ _
    exact ⟨by omega, by omega, [0], rfl, rfl, fun n hn => by rw [List.mem_singleton.mp hn]; exact ⟨by decide, by decide⟩⟩
  · unfold lg12
    rw [List.pairwise_map]
    refine List.pairwise_lt_range.imp fun {a b} h _ => ?_
    show 2 * (a : Int) + 1 < 2 * (b : Int)
    omega
theorem lg_sr : (sr lg12).1.isSome = true ∧ (sr lg12).2.length ≤ 100 := by decide +kernel
theorem law2_ok {s0 A2 A3 A4 A5 A7 A8 : Sl} {xs : List D} {T : Store} (hd : Dc xs) : ∃ (nd : D) (rest xs' : List D), bo_law_2 [s0, .v (.ob 0), A2, A3, A4, A5, .no, A7, A8, .no] (.lst xs :: T) = some (.next [s0, .v (.ob 0), A2, A3, A4, A5, .no, .l (lg12.map Row.d ++ nd :: rest), A8, .no] (.lst xs' :: T)) ∧ Dc xs' := by
  obtain ⟨j, x1, e1, j1, j2, hd1⟩ := zbh T 3 hd (by decide) (by decide)
  obtain ⟨J, rfl⟩ : ∃ J : Nat, j = J := ⟨j.toNat, by omega⟩
  have hs : ∃ nd rest, (List.range (13 + J)).map (fun k => (lgR k).d) = lg12.map Row.d ++ nd :: rest := by
    have : J = 0 ∨ J = 1 ∨ J = 2 := by omega
    rcases this with rfl | rfl | rfl
    · exact ⟨_, _, rfl⟩
    · exact ⟨_, _, rfl⟩
    · exact ⟨_, _, rfl⟩
  obtain ⟨nd, rest, hs⟩ := hs
  refine ⟨nd, rest, x1, ?_, hd1⟩
  have sn : smallN ((13 : Int) + (J : Int)) = true := small_n (by omega) (by omega)
  have rg : rangeD ((13 : Int) + (J : Int)) = (List.range (13 + J)).map fD := by
    rw [show (13 : Int) + (J : Int) = ((13 + J : Nat) : Int) by omega]
    exact rangeD_nat
  have f : fRange (eBin gAdd (eLit (.int 13)) (eCall zae [] [(eVar 1), (eLit (.int 3))])) [s0, .v (.ob 0), A2, A3, A4, A5, .no, A7, A8, .no] (.lst xs :: T) = some (((List.range (13 + J)).map fD, .no, true), .lst x1 :: T) := by
    simp -implicitDefEqProofs [e1, sn, rg]
  have cm := comp_map (S := .lst x1 :: T) (ρ := [s0, .v (.ob 0), A2, A3, A4, A5, .no, A7, .no, .no]) (tg := tgName 8) (fe := eTup [(eLit (.int 2)), (eTup [(eLit (.str "look")), (eTup [(eLit (.int 7))])]), (eBin gMul (eLit (.int 2)) (eVar 8)), (eBin gAdd (eBin gMul (eLit (.int 2)) (eVar 8)) (eLit (.int 1))), (eTup [(eLit (.int 0))])]) fD (fun k => (lgR k).d) (xs := List.range (13 + J)) fun k hk => ⟨_, rfl, by
    have g : gMul (.lst x1 :: T) (.v (.int 2)) (.v (.int (k : Nat))) = some (.v (.int (2 * (k : Int)))) := gMulI (by simp [small64])
    simp -implicitDefEqProofs [fD, g, lgR, Row.d, Row.end_, Row.ans, Deed.d]⟩
  rw [hs] at cm
  unfold bo_law_2
  rw [sAsg_, eComp_, f, zaG, List.length_map, List.length_range, if_pos (show 13 + J ≤ cap from capN (by omega))]
  rw [show wipeE [s0, .v (.ob 0), A2, A3, A4, A5, .no, A7, A8, .no] [8] = [s0, .v (.ob 0), A2, A3, A4, A5, .no, A7, .no, .no] from rfl]
  rw [show compF (tgName 8) eTrue _ .no [s0, .v (.ob 0), A2, A3, A4, A5, .no, A7, .no, .no] ((List.range (13 + J)).map fD) (.lst x1 :: T) = _ from cm, zaG]
  rfl
theorem law3_ok {s0 A1 A2 A4 A5 A6 A8 A9 : Sl} {rows : List Row} {rest : List D} (hh : Hist 29 rows) (hl : rows.length ≤ 12) : ∃ S', bo_law_3 [s0, A1, A2, .b (rows.map Row.d), A4, A5, A6, .b (lg12.map Row.d ++ rest), A8, A9] S = some (.next [s0, A1, A2, .b (rows.map Row.d), A4, A5, A6, .b (lg12.map Row.d ++ rest), A8, A9] (S ++ S')) := by
  have w := written_ok (S := S) (by decide) hh hl
  obtain ⟨h1, h2⟩ := lg_sr
  have j : ev_judged [.l (lg12.map Row.d)] S = _ := judged_ok (S := S) (m := 29) (by decide) lg_hist (by decide) (Nat.le_trans h2 (by decide))
  obtain ⟨o, ho⟩ := Option.isSome_iff_exists.mp h1
  rw [ho] at j
  refine ⟨[.dic .N (sr lg12).2], ?_⟩
  have c : cutD (lg12.map Row.d ++ rest) none (some 12) = lg12.map Row.d := by
    rw [show (12 : Int) = ((12 : Nat) : Int) from rfl, cut_take]
    exact List.take_left' (by rw [List.length_map]; rfl)
  unfold bo_law_3
  simp -implicitDefEqProofs [w, isTy, c, j, resR]
end
end Ev
namespace Ev
open PySem L2
def RI (ρ : Env) (S : Store) : Prop := ∃ (s0 A2 A3 A4 A5 A7 A8 : Sl) (xs : List D) (T : Store), ρ = [s0, .v (.ob 0), A2, A3, A4, A5, .no, A7, A8, .no] ∧ S = .lst xs :: T ∧ Dc xs
theorem two_of {S : Store} {rows : List Row} {nd : D} {rest : List D} (h : Hist 29 rows) (hl : rows.length ≤ 12) (hb : rows.length = 12 ∨ BadD (kvF [] rows) nd) {i : Int} (hi : i = rows.length) : Two gy1 gy2 (rows.map Row.d ++ nd :: rest) i S S ∧ Two gy3 gy4 (rows.map Row.d ++ nd :: rest) i S S := by
  subst hi
  have g := gy_01 (S := S) (nd := nd) (rest := rest) (m := 29) (by decide) h hl hb
  exact ⟨⟨S, g.1.1, g.1.2⟩, S, g.2.1, g.2.2⟩
theorem rounds_ok : ∀ (n : Nat) (ρ : Env) (S : Store), RI ρ S → Rounds n ρ S
  | 0, _, _, _ => trivial
  | n + 1, ρ, S, h => by
    obtain ⟨s0, A2, A3, A4, A5, A7, A8, xs, T, rfl, rfl, hd⟩ := h
    intro t
    obtain ⟨rows, k, nd, rest, x1, e1, hh, hl, hk, hb, hd1⟩ := law1_ok (s0 := s0) (A2 := .v (.int t)) (A3 := A3) (A4 := A4) (A5 := A5) (A7 := A7) (A8 := A8) (T := T) hd
    have hlt : (rows.take k).length = k := by rw [List.length_take]; omega
    have t1 := (two_of (S := .lst x1 :: T) (nd := nd) (rest := rest) (take_hist hh k) (by omega) (.inr hb) (i := (k : Int)) (by rw [hlt])).1
    obtain ⟨nd2, rest2, x2, e2, hd2⟩ := law2_ok (s0 := lendS s0) (A2 := .v (.int t)) (A3 := .b (rows.map Row.d)) (A4 := .v (.int (k : Nat))) (A5 := .b ((rows.take k).map Row.d ++ nd :: rest)) (A7 := lendS A7) (A8 := lendS A8) (T := T) hd1
    have t2 := (two_of (S := .lst x2 :: T) (nd := nd2) (rest := rest2) lg_hist (by decide) (.inl rfl) (i := 12) rfl).2
    obtain ⟨S', e3⟩ := law3_ok (S := .lst x2 :: T) (s0 := lendS (lendS s0)) (A1 := .v (.ob 0)) (A2 := .v (.int t)) (A4 := .v (.int (k : Nat))) (A5 := .b ((rows.take k).map Row.d ++ nd :: rest)) (A6 := .no) (A8 := lendS (lendS A8)) (A9 := .no) (rest := nd2 :: rest2) hh hl
    refine ⟨_, _, _, _, _, _, _, _, _, _, _, e1, ⟨rfl, rfl, rfl, rfl, rfl⟩, t1, e2, ⟨rfl, rfl, rfl, rfl⟩, t2, e3, rfl, rounds_ok n _ _ ⟨_, _, _, _, _, _, _, x2, T ++ S', rfl, rfl, hd2⟩⟩
theorem law_runs : LawRuns := by
  intro ns hl scr hs
  obtain ⟨xs, e, hd⟩ : ∃ xs, bo_law_a (scr :: List.replicate 9 .no) [] = some (.next [scr, .v (.ob 0), .no, .no, .no, .no, .no, .no, .no, .no] [.lst xs]) ∧ Dc xs := by
    rcases hs with rfl | rfl
    · obtain ⟨xs, e, hd⟩ := dice_ok (S := []) hl
      refine ⟨xs, ?_, hd⟩
      have e0 : (eCall zaT [] [(eVar 0), (eLit (.int 0))]) [.f (ns.map D.int), .no, .no, .no, .no, .no, .no, .no, .no, .no] [] = some (.l xs, []) := by
        rw [eCall_, eArgs_c, show eVar 0 [.f (ns.map D.int), .no, .no, .no, .no, .no, .no, .no, .no, .no] [] = some (.f (ns.map D.int), []) by rw [eVar_]; rfl, zaG, eArgs_c, eLit_, zaG, eArgs_n, zaG, zaG, zaG, e]
      show bo_law_a [.f (ns.map D.int), .no, .no, .no, .no, .no, .no, .no, .no, .no] [] = _
      unfold bo_law_a
      rw [sAsg_]
      unfold eBox
      rw [e0]
      rfl
    · obtain ⟨xs, e, hd⟩ := dice_okb (S := []) hl
      refine ⟨xs, ?_, hd⟩
      have e0 : (eCall zaT [] [(eVar 0), (eLit (.int 0))]) [.b (ns.map D.int), .no, .no, .no, .no, .no, .no, .no, .no, .no] [] = some (.l xs, []) := by
        rw [eCall_, eArgs_c, show eVar 0 [.b (ns.map D.int), .no, .no, .no, .no, .no, .no, .no, .no, .no] [] = some (.b (ns.map D.int), []) by rw [eVar_]; rfl, zaG, eArgs_c, eLit_, zaG, eArgs_n, zaG, zaG, zaG, e]
      show bo_law_a [.b (ns.map D.int), .no, .no, .no, .no, .no, .no, .no, .no, .no] [] = _
      unfold bo_law_a
      rw [sAsg_]
      unfold eBox
      rw [e0]
      rfl
  refine ⟨_, _, e, rfl, rounds_ok 6 _ _ ⟨_, _, _, _, _, _, _, xs, [], rfl, rfl, hd⟩⟩
end Ev
set_option maxHeartbeats 0
namespace Ev
open PySem PySem.Spec PyProof.Rows L2 LamX NdefX
def d__law_dice : He.DefD := ⟨("_law_dice", none), "_law_dice", "_law_dice", defArgs st__law_dice, defBody st__law_dice, defScope st__law_dice, [], []⟩
def d__law_off : He.DefD := ⟨("_law_off", none), "_law_off", "_law_off", defArgs st__law_off, defBody st__law_off, defScope st__law_off, [], []⟩
def d__law_mixed : He.DefD := ⟨("_law_mixed", none), "_law_mixed", "_law_mixed", defArgs st__law_mixed, defBody st__law_mixed, defScope st__law_mixed, [], []⟩
def d__law_some : He.DefD := ⟨("_law_some", none), "_law_some", "_law_some", defArgs st__law_some, defBody st__law_some, defScope st__law_some, [], []⟩
def d__law_files : He.DefD := ⟨("_law_files", none), "_law_files", "_law_files", defArgs st__law_files, defBody st__law_files, defScope st__law_files, [], []⟩
def d__law_deed : He.DefD := ⟨("_law_deed", none), "_law_deed", "_law_deed", defArgs st__law_deed, defBody st__law_deed, defScope st__law_deed, [], []⟩
def d__law_done : He.DefD := ⟨("_law_done", none), "_law_done", "_law_done", defArgs st__law_done, defBody st__law_done, defScope st__law_done, [], []⟩
def d__law_history : He.DefD := ⟨("_law_history", none), "_law_history", "_law_history", defArgs zbw, defBody zbw, defScope zbw, [], []⟩
def d_is_below : He.DefD := ⟨("is_below", none), "is_below", "is_below", defArgs st_is_below, defBody st_is_below, defScope st_is_below, [], []⟩
def d_is_answer : He.DefD := ⟨("is_answer", none), "is_answer", "is_answer", defArgs st_is_answer, defBody st_is_answer, defScope st_is_answer, [], []⟩
def d_are_rising : He.DefD := ⟨("are_rising", none), "are_rising", "are_rising", defArgs st_are_rising, defBody st_are_rising, defScope st_are_rising, [], []⟩
def d_are_pairs : He.DefD := ⟨("are_pairs", none), "are_pairs", "are_pairs", defArgs st_are_pairs, defBody st_are_pairs, defScope st_are_pairs, [], []⟩
def d_is_deed : He.DefD := ⟨("is_deed", none), "is_deed", "is_deed", defArgs st_is_deed, defBody st_is_deed, defScope st_is_deed, [], []⟩
def d_is_plain : He.DefD := ⟨("is_plain", none), "is_plain", "is_plain", defArgs st_is_plain, defBody st_is_plain, defScope st_is_plain, [], []⟩
def d_is_row : He.DefD := ⟨("is_row", none), "is_row", "is_row", defArgs st_is_row, defBody st_is_row, defScope st_is_row, [], []⟩
def d_need_history : He.DefD := ⟨("need_history", none), "need_history", "need_history", defArgs za8, defBody za8, defScope za8, [], []⟩
def d_may_be_next : He.DefD := ⟨("may_be_next", none), "may_be_next", "may_be_next", defArgs zbM, defBody zbM, defScope zbM, [], []⟩
def d_done : He.DefD := ⟨("done", none), "done", "done", defArgs st_done, defBody st_done, defScope st_done, [], []⟩
def d_like : He.DefD := ⟨("like", none), "like", "like", defArgs st_like, defBody st_like, defScope st_like, [], []⟩
def d_order_of : He.DefD := ⟨("order_of", none), "order_of", "order_of", defArgs st_order_of, defBody st_order_of, defScope st_order_of, [], []⟩
def d_judged : He.DefD := ⟨("judged", none), "judged", "judged", defArgs st_judged, defBody st_judged, defScope st_judged, [], []⟩
def d_word_of : He.DefD := ⟨("word_of", none), "word_of", "word_of", defArgs st_word_of, defBody st_word_of, defScope st_word_of, [], []⟩
def d_words_of : He.DefD := ⟨("words_of", none), "words_of", "words_of", defArgs st_words_of, defBody st_words_of, defScope st_words_of, [], []⟩
def d_written : He.DefD := ⟨("written", none), "written", "written", defArgs st_written, defBody st_written, defScope st_written, [], []⟩
def d__law_bad_row : He.DefD := ⟨("_law_bad_row", none), "_law_bad_row", "_law_bad_row", defArgs zbx, defBody zbx, defScope zbx, [], []⟩
def d__law_alike : He.DefD := ⟨("_law_alike", none), "_law_alike", "_law_alike", defArgs zbb, defBody zbb, defScope zbb, [], []⟩
def d_law : He.DefD := ⟨("law", none), "law", "law", defArgs st_law, defBody st_law, defScope st_law, [], []⟩
def d__law_refused : He.DefD := ⟨("_law_refused", none), "_law_refused", "_law_refused", defArgs zbj, defBody zbj, defScope zbj, [], []⟩
def d_BadHistory___init__ : He.DefD := ⟨("BadHistory", some "__init__"), "__init__", "BadHistory.__init__", defArgs zaU, defBody zaU, defScope zaU, [], []⟩
def hfn : List He.DefD := [d__law_dice, d__law_off, d__law_mixed, d__law_some, d__law_files, d__law_deed, d__law_done, d__law_history, d_is_below, d_is_answer, d_are_rising, d_are_pairs, d_is_deed, d_is_plain, d_is_row, d_need_history, d_may_be_next, d_done, d_like, d_order_of, d_judged, d_word_of, d_words_of, d_written, d__law_bad_row, d__law_alike, d_law, d__law_refused, d_BadHistory___init__]
def hfa : List He.Fa := ([.glo "_law_dice", .glo "_law_off", .glo "_law_mixed", .glo "_law_some", .glo "_law_files", .glo "_law_deed", .glo "_law_done", .glo "_law_history", .glo "is_below", .glo "is_answer", .glo "are_rising", .glo "are_pairs", .glo "is_deed", .glo "is_plain", .glo "is_row", .glo "need_history", .glo "may_be_next", .glo "done", .glo "like", .glo "order_of", .glo "judged", .glo "word_of", .glo "words_of", .glo "written", .glo "_law_bad_row", .glo "_law_alike", .glo "law", .glo "_law_refused", .meth "BadHistory" "__init__", .glo "BadDeed"] : List He.Fa) ++ ([.glo "BadUser", .glo "BadFile", .glo "Busy", .glo "BadLetter", .glo "BadHistory", .glo "BadText", .glo "LentError", .free "ValueError", .free "abs", .free "all", .free "bool", .free "enumerate", .free "int", .free "isinstance", .free "len", .free "list", .free "max", .free "min", .free "range", .free "set", .free "sorted", .free "str", .free "tuple", .int "FILES" 10, .int "MOMENTS" 10000, .int "MOST_FILES" 4, .int "MOST_ROWS" 12, .str "NONE" "-", .glo "PLAIN", .int "USERS" 100] : List He.Fa) ++ ([.int "WORTHS" 1000] : List He.Fa)
def hxa (K : PySem.W.Frag) : Nat → Addr
  | 0 => He.ga K "BadDeed"
  | 1 => He.ga K "BadUser"
  | 2 => He.ga K "BadFile"
  | 3 => He.ga K "Busy"
  | 4 => He.ga K "BadLetter"
  | 5 => He.ga K "BadHistory"
  | _ => He.ga K "BadText"
def excB (K : PySem.W.Frag) (D : Addr) : Bool := (PySem.W.findIn K (.ref D) "__getattribute__" == some (some (.builtin "BaseException.__getattribute__"))) && ((PySem.W.findIn K (.ref D) "__getattr__" == some none) && ((PySem.W.subIn K (.ref D) (.type "BaseException") == some true) && (PySem.W.hasDictIn K D && ((PySem.W.findIn K (.ref D) "__class__" == some (some (.builtin "object.__class__"))) &&
  ((PySem.W.specialIn K (.builtin "object.__class__") "__get__" == some (some (.builtin "getset_descriptor.__get__"))) && ((PySem.W.takesIn K (.builtin "object.__class__") == some true) && (PySem.W.mroIn K D (.type "object") == some true)))))))
theorem excB_ok {K : PySem.W.Frag} {D : Addr} (h : excB K D = true) : ExcC K D := by
  unfold excB at h
  simp only [Bool.and_eq_true, beq_iff_eq] at h
  obtain ⟨h1, h2, h3, h4, h5, h6, h7, h8⟩ := h
  exact ⟨h1, h2, h3, h4, h5, h6, h7, h8⟩
def clsB (K : PySem.W.Frag) (c : Nat) : Bool := (PySem.W.exmOne K (.ref (hxa K c)) (.ref (He.ga K "LentError")) == some true) && (excB K (hxa K c) && ((PySem.W.kitOne K (.ref (hxa K c)) (.type "ValueError") == some true) && (([0, 1, 2, 3, 4, 5, 6].all fun j => PySem.W.kitOne K (.ref (hxa K c)) (.ref (hxa K j)) == some (decide (c = j))) &&
  (xfB K (hxa K c) && ((PySem.W.findIn K (.ref (hxa K c)) "number" == some none) && (PySem.W.findIn K (.ref (hxa K c)) "row" == some none))))))
def hex (K : PySem.W.Frag) : Bool := ([0, 1, 2, 3, 4, 5, 6].all fun c => clsB K c) && (leB K (He.ga K "LentError") && (numB K (hxa K 5) (He.ma K (hxa K 5) "__init__") (fieldOf 5) && (He.tupB K "PLAIN" [.str "look", .str "put", .str "add", .str "move"])))
theorem cls_all {K : PySem.W.Frag} (h : hex K = true) : ∀ c, c < 7 → clsB K c = true := fun c hc => by
  unfold hex at h
  simp only [Bool.and_eq_true, List.all_eq_true] at h
  exact h.1 c (by simp; omega)
abbrev hR : PySem.W.OpenRow := PySem.W.OpenLaw.row PySem.Challenge.rw_lentfiles_k03_histories_refused
abbrev hhk : PySem.W.Hook := hookXA 5 hfa hfn [] [("law", none)] hex
def hob (s : PySem.W.SharedT) : He.AlX := obsXA 5 hfa hfn [] [("law", none)] hex (HandSHeadRun.getT s)
theorem hob_eq (s : PySem.W.SharedT) : hob s = hhk.obs s.abs := obsXA_eq (HandSHeadRun.getT_eq s)
def loose : List PySem.Str := (["LentError", "BadDeed", "BadUser", "BadFile", "Busy", "BadLetter", "BadHistory", "BadText", "FILES", "WORTHS", "MOST_FILES", "PLAIN", "is_below", "are_rising", "are_pairs", "is_deed", "is_plain", "done", "MOST_ROWS", "USERS", "MOMENTS", "is_row", "need_history", "may_be_next", "like", "order_of", "judged", "is_answer", "NONE", "word_of"] : List PySem.Str) ++ (["words_of", "written", "_law_dice", "_law_off", "_law_alike", "_law_mixed", "_law_refused", "_law_files", "_law_deed", "_law_done", "_law_history", "_law_some", "_law_bad_row"] : List PySem.Str)
theorem hrun (w : World) : HandSHeadRun.RunEq hR (PySem.W.view hR.prog [48]) hhk hob 8000 loose w := by
  intro os
  kernel_rfl
end Ev
namespace Ev
open PySem PySem.Spec PyProof.Rows L2 LamX NdefX
section
variable {P : Program} {w : World} {K : PySem.W.Frag} {h : Heap} {mg : Str → Option Value} {f : Addr}
theorem hex_ok (hx : hex K = true) : leB K (He.ga K "LentError") = true ∧ numB K (hxa K 5) (He.ma K (hxa K 5) "__init__") (fieldOf 5) = true ∧ He.tupB K "PLAIN" [.str "look", .str "put", .str "add", .str "move"] = true := by
  unfold hex at hx
  simp only [Bool.and_eq_true] at hx
  exact hx.2
theorem fx_of (X : K.In h) (G : h.Ns mainGlobals mg) (cd : He.SaysD hfa hfn K) (hx : hex K = true) : Fx K mg where
  b_ValueError := He.free_ok X G (cd.fact 37 (f := .free "ValueError") rfl)
  b_abs := He.free_ok X G (cd.fact 38 (f := .free "abs") rfl)
  b_all := He.free_ok X G (cd.fact 39 (f := .free "all") rfl)
  b_bool := He.free_ok X G (cd.fact 40 (f := .free "bool") rfl)
  b_enumerate := He.free_ok X G (cd.fact 41 (f := .free "enumerate") rfl)
  b_int := He.free_ok X G (cd.fact 42 (f := .free "int") rfl)
  b_isinstance := He.free_ok X G (cd.fact 43 (f := .free "isinstance") rfl)
  b_len := He.free_ok X G (cd.fact 44 (f := .free "len") rfl)
  b_list := He.free_ok X G (cd.fact 45 (f := .free "list") rfl)
  b_max := He.free_ok X G (cd.fact 46 (f := .free "max") rfl)
  b_min := He.free_ok X G (cd.fact 47 (f := .free "min") rfl)
  b_range := He.free_ok X G (cd.fact 48 (f := .free "range") rfl)
  b_set := He.free_ok X G (cd.fact 49 (f := .free "set") rfl)
  b_sorted := He.free_ok X G (cd.fact 50 (f := .free "sorted") rfl)
  b_str := He.free_ok X G (cd.fact 51 (f := .free "str") rfl)
  b_tuple := He.free_ok X G (cd.fact 52 (f := .free "tuple") rfl)
  c_FILES := He.int_ok X G (cd.fact 53 (f := .int "FILES" 10) rfl)
  c_MOMENTS := He.int_ok X G (cd.fact 54 (f := .int "MOMENTS" 10000) rfl)
  c_MOST_FILES := He.int_ok X G (cd.fact 55 (f := .int "MOST_FILES" 4) rfl)
  c_MOST_ROWS := He.int_ok X G (cd.fact 56 (f := .int "MOST_ROWS" 12) rfl)
  c_NONE := He.str_ok X G (cd.fact 57 (f := .str "NONE" "-") rfl)
  c_PLAIN := wr_of (He.glo_ok X G (cd.fact 58 (f := .glo "PLAIN") rfl)) (hex_ok hx).2.2
  c_USERS := He.int_ok X G (cd.fact 59 (f := .int "USERS" 100) rfl)
  c_WORTHS := He.int_ok X G (cd.fact 60 (f := .int "WORTHS" 1000) rfl)
theorem xf_of (X : K.In h) (G : h.Ns mainGlobals mg) (cd : He.SaysD hfa hfn K) (hx : hex K = true) : XF K mg (hxa K) (He.ga K "LentError") ∧ XN K (hxa K) := by
  have key : ∀ c, c < 7 → PySem.W.exmOne K (.ref (hxa K c)) (.ref (He.ga K "LentError")) = some true ∧ excB K (hxa K c) = true ∧ PySem.W.kitOne K (.ref (hxa K c)) (.type "ValueError") = some true ∧ (∀ j ∈ [0, 1, 2, 3, 4, 5, 6], PySem.W.kitOne K (.ref (hxa K c)) (.ref (hxa K j)) = some (decide (c = j))) ∧ xfB K (hxa K c) = true ∧ PySem.W.findIn K (.ref (hxa K c)) "number" = some none ∧ PySem.W.findIn K (.ref (hxa K c)) "row" = some none := fun c hc => by
    have z := cls_all hx c hc
    unfold clsB at z
    simpa only [Bool.and_eq_true, beq_iff_eq, List.all_eq_true] using z
  exact ⟨⟨He.glo_ok X G (cd.fact 36 (f := .glo "LentError") rfl), He.glo_ok X G (cd.fact 29 (f := .glo "BadDeed") rfl), He.glo_ok X G (cd.fact 30 (f := .glo "BadUser") rfl), He.glo_ok X G (cd.fact 31 (f := .glo "BadFile") rfl), He.glo_ok X G (cd.fact 32 (f := .glo "Busy") rfl), He.glo_ok X G (cd.fact 33 (f := .glo "BadLetter") rfl), He.glo_ok X G (cd.fact 34 (f := .glo "BadHistory") rfl), He.glo_ok X G (cd.fact 35 (f := .glo "BadText") rfl), fun c hc => (key c hc).1, fun c hc => excB_ok (key c hc).2.1, fun c j hc hj => (key c hc).2.2.2.1 j (by simp; omega), fun c hc => (key c hc).2.2.1⟩, ⟨fun c hc => (key c hc).2.2.2.2.2, fun c hc => xfB_ok (key c hc).2.2.2.2.1⟩⟩
def hCA (_ : PySem.W.Frag) : Nat → Addr := fun _ => 0
theorem facts (X : K.In h) (G : h.Ns mainGlobals mg) (hfa0 : mg ("law" : Str) = some (.ref f)) (cd : He.SaysD hfa hfn K) (hx : hex K = true) (runs : LawRuns) :
    ∃ fd : FuncData, (∀ (s : Shared) (v : Value), BindsTo s fd ⟨[v], []⟩ [("_law_script", v)]) ∧ ∀ base : Heap, K.In base → base.Ns mainGlobals mg → TabB base mg (He.cT K ("law", none)).1 (He.cT K ("law", none)).2 → FnOk P w K mg base CX0 44 f fd ["_law_script"] (spL (Wv P w K (hCA K)) (He.cT K ("law", none)).2) := by
  have T := fx_of X G cd hx
  obtain ⟨xf, xn⟩ := xf_of X G cd hx
  have lc : LeC K mg (He.ga K "LentError") := leB_ok xf.gl (hex_ok hx).1
  obtain ⟨fd__law_dice, F__law_dice⟩ := cd.def_ 0 (d := d__law_dice) rfl
  obtain ⟨fd__law_off, F__law_off⟩ := cd.def_ 1 (d := d__law_off) rfl
  obtain ⟨fd__law_mixed, F__law_mixed⟩ := cd.def_ 2 (d := d__law_mixed) rfl
  obtain ⟨fd__law_some, F__law_some⟩ := cd.def_ 3 (d := d__law_some) rfl
  obtain ⟨fd__law_files, F__law_files⟩ := cd.def_ 4 (d := d__law_files) rfl
  obtain ⟨fd__law_deed, F__law_deed⟩ := cd.def_ 5 (d := d__law_deed) rfl
  obtain ⟨fd__law_done, F__law_done⟩ := cd.def_ 6 (d := d__law_done) rfl
  obtain ⟨fd__law_history, F__law_history⟩ := cd.def_ 7 (d := d__law_history) rfl
  obtain ⟨fd_is_below, F_is_below⟩ := cd.def_ 8 (d := d_is_below) rfl
  obtain ⟨fd_is_answer, F_is_answer⟩ := cd.def_ 9 (d := d_is_answer) rfl
  obtain ⟨fd_are_rising, F_are_rising⟩ := cd.def_ 10 (d := d_are_rising) rfl
  obtain ⟨fd_are_pairs, F_are_pairs⟩ := cd.def_ 11 (d := d_are_pairs) rfl
  obtain ⟨fd_is_deed, F_is_deed⟩ := cd.def_ 12 (d := d_is_deed) rfl
  obtain ⟨fd_is_plain, F_is_plain⟩ := cd.def_ 13 (d := d_is_plain) rfl
  obtain ⟨fd_is_row, F_is_row⟩ := cd.def_ 14 (d := d_is_row) rfl
  obtain ⟨fd_need_history, F_need_history⟩ := cd.def_ 15 (d := d_need_history) rfl
  obtain ⟨fd_may_be_next, F_may_be_next⟩ := cd.def_ 16 (d := d_may_be_next) rfl
  obtain ⟨fd_done, F_done⟩ := cd.def_ 17 (d := d_done) rfl
  obtain ⟨fd_like, F_like⟩ := cd.def_ 18 (d := d_like) rfl
  obtain ⟨fd_order_of, F_order_of⟩ := cd.def_ 19 (d := d_order_of) rfl
  obtain ⟨fd_judged, F_judged⟩ := cd.def_ 20 (d := d_judged) rfl
  obtain ⟨fd_word_of, F_word_of⟩ := cd.def_ 21 (d := d_word_of) rfl
  obtain ⟨fd_words_of, F_words_of⟩ := cd.def_ 22 (d := d_words_of) rfl
  obtain ⟨fd_written, F_written⟩ := cd.def_ 23 (d := d_written) rfl
  obtain ⟨fd__law_bad_row, F__law_bad_row⟩ := cd.def_ 24 (d := d__law_bad_row) rfl
  obtain ⟨fd__law_alike, F__law_alike⟩ := cd.def_ 25 (d := d__law_alike) rfl
  obtain ⟨fd_law, F_law⟩ := cd.def_ 26 (d := d_law) rfl
  obtain ⟨fd__law_refused, F__law_refused⟩ := cd.def_ 27 (d := d__law_refused) rfl
  obtain ⟨fd_BadHistory___init__, F_BadHistory___init__⟩ := cd.def_ 28 (d := d_BadHistory___init__) rfl
  have g__law_dice := He.glo_ok X G (cd.fact 0 (f := .glo "_law_dice") rfl)
  have g__law_off := He.glo_ok X G (cd.fact 1 (f := .glo "_law_off") rfl)
  have g__law_mixed := He.glo_ok X G (cd.fact 2 (f := .glo "_law_mixed") rfl)
  have g__law_some := He.glo_ok X G (cd.fact 3 (f := .glo "_law_some") rfl)
  have g__law_files := He.glo_ok X G (cd.fact 4 (f := .glo "_law_files") rfl)
  have g__law_deed := He.glo_ok X G (cd.fact 5 (f := .glo "_law_deed") rfl)
  have g__law_done := He.glo_ok X G (cd.fact 6 (f := .glo "_law_done") rfl)
  have g__law_history := He.glo_ok X G (cd.fact 7 (f := .glo "_law_history") rfl)
  have g_is_below := He.glo_ok X G (cd.fact 8 (f := .glo "is_below") rfl)
  have g_is_answer := He.glo_ok X G (cd.fact 9 (f := .glo "is_answer") rfl)
  have g_are_rising := He.glo_ok X G (cd.fact 10 (f := .glo "are_rising") rfl)
  have g_are_pairs := He.glo_ok X G (cd.fact 11 (f := .glo "are_pairs") rfl)
  have g_is_deed := He.glo_ok X G (cd.fact 12 (f := .glo "is_deed") rfl)
  have g_is_plain := He.glo_ok X G (cd.fact 13 (f := .glo "is_plain") rfl)
  have g_is_row := He.glo_ok X G (cd.fact 14 (f := .glo "is_row") rfl)
  have g_need_history := He.glo_ok X G (cd.fact 15 (f := .glo "need_history") rfl)
  have g_may_be_next := He.glo_ok X G (cd.fact 16 (f := .glo "may_be_next") rfl)
  have g_done := He.glo_ok X G (cd.fact 17 (f := .glo "done") rfl)
  have g_like := He.glo_ok X G (cd.fact 18 (f := .glo "like") rfl)
  have g_order_of := He.glo_ok X G (cd.fact 19 (f := .glo "order_of") rfl)
  have g_judged := He.glo_ok X G (cd.fact 20 (f := .glo "judged") rfl)
  have g_word_of := He.glo_ok X G (cd.fact 21 (f := .glo "word_of") rfl)
  have g_words_of := He.glo_ok X G (cd.fact 22 (f := .glo "words_of") rfl)
  have g_written := He.glo_ok X G (cd.fact 23 (f := .glo "written") rfl)
  have g__law_bad_row := He.glo_ok X G (cd.fact 24 (f := .glo "_law_bad_row") rfl)
  have g__law_alike := He.glo_ok X G (cd.fact 25 (f := .glo "_law_alike") rfl)
  have g_law := He.glo_ok X G (cd.fact 26 (f := .glo "law") rfl)
  have g__law_refused := He.glo_ok X G (cd.fact 27 (f := .glo "_law_refused") rfl)
  have e := hfa0.symm.trans g_law
  cases e
  have b := FunD.bindsA (ps := ["_law_script"]) F_law fun _ _ _ _ _ _ us hl => match us, hl with | [_], _ => rfl
  refine ⟨fd_law, fun s v => b s [v] rfl, fun base _ _ TB => ?_⟩
  have G__law_dice : Kn P w K mg base 1 "_law_dice" ["_law_script", "_law_k"] [] (spOf (Wv P w K (hCA K)) 2 zaT) := ⟨⟨_, _, [], ok__law_dice T F__law_dice , g__law_dice, F__law_dice.kp, F__law_dice.bindsN (fun _ _ _ _ _ _ us hl => match us, hl with | [_, _], _ => rfl), .nil⟩⟩
  have G__law_off : Kn P w K mg base 1 "_law_off" ["_law_d", "_law_most"] [] (spOf (Wv P w K (hCA K)) 2 zae) := ⟨⟨_, _, [], ok__law_off T F__law_off , g__law_off, F__law_off.kp, F__law_off.bindsN (fun _ _ _ _ _ _ us hl => match us, hl with | [_, _], _ => rfl), .nil⟩⟩
  have G__law_mixed : Kn P w K mg base 2 "_law_mixed" ["_law_d", "_law_row"] [] (spOf (Wv P w K (hCA K)) 2 zaY) := ⟨⟨_, _, [], ok__law_mixed T F__law_mixed G__law_off, g__law_mixed, F__law_mixed.kp, F__law_mixed.bindsN (fun _ _ _ _ _ _ us hl => match us, hl with | [_, _], _ => rfl), .nil⟩⟩
  have G__law_some : Kn P w K mg base 1 "_law_some" ["_law_few"] [] (spOf (Wv P w K (hCA K)) 1 zaS) := ⟨⟨_, _, [], ok__law_some T F__law_some , g__law_some, F__law_some.kp, F__law_some.bindsN (fun _ _ _ _ _ _ us hl => match us, hl with | [_], _ => rfl), .nil⟩⟩
  have G__law_files : Kn P w K mg base 3 "_law_files" ["_law_d", "_law_few"] [] (spOf (Wv P w K (hCA K)) 2 za4) := ⟨⟨_, _, [], ok__law_files T F__law_files G__law_mixed G__law_some G__law_off, g__law_files, F__law_files.kp, F__law_files.bindsN (fun _ _ _ _ _ _ us hl => match us, hl with | [_, _], _ => rfl), .nil⟩⟩
  have G__law_deed : Kn P w K mg base 4 "_law_deed" ["_law_d", "_law_few"] [] (spOf (Wv P w K (hCA K)) 2 zbA) := ⟨⟨_, _, [], ok__law_deed T F__law_deed G__law_off G__law_files G__law_some G__law_mixed, g__law_deed, F__law_deed.kp, F__law_deed.bindsN (fun _ _ _ _ _ _ us hl => match us, hl with | [_, _], _ => rfl), .nil⟩⟩
  have G__law_done : Kn P w K mg base 1 "_law_done" ["_law_worths", "_law_deed_here"] [] (spOf (Wv P w K (hCA K)) 2 za6) := ⟨⟨_, _, [], ok__law_done T F__law_done , g__law_done, F__law_done.kp, F__law_done.bindsN (fun _ _ _ _ _ _ us hl => match us, hl with | [_, _], _ => rfl), .nil⟩⟩
  have G__law_history : Kn P w K mg base 5 "_law_history" ["_law_d", "_law_most"] [] (spOf (Wv P w K (hCA K)) 2 zaJ) := ⟨⟨_, _, [], ok__law_history T F__law_history G__law_off G__law_deed G__law_done, g__law_history, F__law_history.kp, F__law_history.bindsN (fun _ _ _ _ _ _ us hl => match us, hl with | [_, _], _ => rfl), .nil⟩⟩
  have G_is_below : Kn P w K mg base 1 "is_below" ["part", "bound"] [] (spOf (Wv P w K (hCA K)) 2 zaj) := ⟨⟨_, _, [], ok_is_below T F_is_below , g_is_below, F_is_below.kp, F_is_below.bindsN (fun _ _ _ _ _ _ us hl => match us, hl with | [_, _], _ => rfl), .nil⟩⟩
  have G_is_answer : Kn P w K mg base 2 "is_answer" ["deed", "answer"] [] (spOf (Wv P w K (hCA K)) 2 zaI) := ⟨⟨_, _, [], ok_is_answer T F_is_answer G_is_below, g_is_answer, F_is_answer.kp, F_is_answer.bindsN (fun _ _ _ _ _ _ us hl => match us, hl with | [_, _], _ => rfl), .nil⟩⟩
  have G_are_rising : Kn P w K mg base 2 "are_rising" ["files"] [] (spOf (Wv P w K (hCA K)) 1 zaw) := ⟨⟨_, _, [], ok_are_rising T F_are_rising G_is_below, g_are_rising, F_are_rising.kp, F_are_rising.bindsN (fun _ _ _ _ _ _ us hl => match us, hl with | [_], _ => rfl), .nil⟩⟩
  have G_are_pairs : Kn P w K mg base 3 "are_pairs" ["pairs"] [] (spOf (Wv P w K (hCA K)) 1 zaK) := ⟨⟨_, _, [], ok_are_pairs T F_are_pairs G_is_below G_are_rising, g_are_pairs, F_are_pairs.kp, F_are_pairs.bindsN (fun _ _ _ _ _ _ us hl => match us, hl with | [_], _ => rfl), .nil⟩⟩
  have G_is_deed : Kn P w K mg base 4 "is_deed" ["deed"] [] (spOf (Wv P w K (hCA K)) 1 zaR) := ⟨⟨_, _, [], ok_is_deed T F_is_deed G_are_rising G_are_pairs G_is_below, g_is_deed, F_is_deed.kp, F_is_deed.bindsN (fun _ _ _ _ _ _ us hl => match us, hl with | [_], _ => rfl), .nil⟩⟩
  have G_is_plain : Kn P w K mg base 5 "is_plain" ["deed"] [] (spOf (Wv P w K (hCA K)) 1 zbr) := ⟨⟨_, _, [], ok_is_plain T F_is_plain G_is_deed, g_is_plain, F_is_plain.kp, F_is_plain.bindsN (fun _ _ _ _ _ _ us hl => match us, hl with | [_], _ => rfl), .nil⟩⟩
  have G_is_row : Kn P w K mg base 6 "is_row" ["row"] [] (spOf (Wv P w K (hCA K)) 1 zaV) := ⟨⟨_, _, [], ok_is_row T F_is_row G_is_plain G_is_below G_is_answer, g_is_row, F_is_row.kp, F_is_row.bindsN (fun _ _ _ _ _ _ us hl => match us, hl with | [_], _ => rfl), .nil⟩⟩
  have G_need_history : Kn P w K mg base 7 "need_history" ["rows"] [] (spOf (Wv P w K (hCA K)) 1 zaE) := ⟨⟨_, _, [], ok_need_history T F_need_history G_is_row, g_need_history, F_need_history.kp, F_need_history.bindsN (fun _ _ _ _ _ _ us hl => match us, hl with | [_], _ => rfl), .nil⟩⟩
  have G_may_be_next : Kn P w K mg base 1 "may_be_next" ["rows", "left"] [] (spOf (Wv P w K (hCA K)) 2 zbg) := ⟨⟨_, _, [], ok_may_be_next T F_may_be_next , g_may_be_next, F_may_be_next.kp, F_may_be_next.bindsN (fun _ _ _ _ _ _ us hl => match us, hl with | [_, _], _ => rfl), .nil⟩⟩
  have G_done : Kn P w K mg base 1 "done" ["worths", "deed"] [] (spOf (Wv P w K (hCA K)) 2 ev_done) := ⟨⟨_, _, [], ok_done T F_done , g_done, F_done.kp, F_done.bindsN (fun _ _ _ _ _ _ us hl => match us, hl with | [_, _], _ => rfl), .nil⟩⟩
  have G_like : Kn P w K mg base 1 "like" ["one", "other"] [] (spOf (Wv P w K (hCA K)) 2 ev_like) := ⟨⟨_, _, [], ok_like T F_like , g_like, F_like.kp, F_like.bindsN (fun _ _ _ _ _ _ us hl => match us, hl with | [_, _], _ => rfl), .nil⟩⟩
  have G_order_of : Kn P w K mg base 42 "order_of" ["rows", "left", "worths", "dead"] [] (spOf (Wv P w K (hCA K)) 4 (zbq 40)) := by
    have all : ∀ n, Kn P w K mg base (2 + n) "order_of" ["rows", "left", "worths", "dead"] [] (spOf (Wv P w K (hCA K)) 4 (zbq n)) := fun n => by
      induction n with
      | zero => exact ⟨⟨_, _, [], kn_none rfl, g_order_of, F_order_of.kp, F_order_of.bindsN (fun _ _ _ _ _ _ us hl => match us, hl with | [_, _, _, _], _ => rfl), .nil⟩⟩
      | succ n ih => exact ⟨⟨_, _, [], ok_order_of T F_order_of G_may_be_next G_done G_like (zbq n) ih, g_order_of, F_order_of.kp, F_order_of.bindsN (fun _ _ _ _ _ _ us hl => match us, hl with | [_, _, _, _], _ => rfl), .nil⟩⟩
    exact all 40
  have G_judged : Kn P w K mg base 43 "judged" ["rows"] [] (spOf (Wv P w K (hCA K)) 1 ev_judged) := ⟨⟨_, _, [], ok_judged T F_judged G_need_history G_order_of, g_judged, F_judged.kp, F_judged.bindsN (fun _ _ _ _ _ _ us hl => match us, hl with | [_], _ => rfl), .nil⟩⟩
  have G_word_of : Kn P w K mg base 1 "word_of" ["part"] [] (spOf (Wv P w K (hCA K)) 1 zax) := ⟨⟨_, _, [], ok_word_of T F_word_of , g_word_of, F_word_of.kp, F_word_of.bindsN (fun _ _ _ _ _ _ us hl => match us, hl with | [_], _ => rfl), .nil⟩⟩
  have G_words_of : Kn P w K mg base 2 "words_of" ["row"] [] (spOf (Wv P w K (hCA K)) 1 zbf) := ⟨⟨_, _, [], ok_words_of T F_words_of G_word_of, g_words_of, F_words_of.kp, F_words_of.bindsN (fun _ _ _ _ _ _ us hl => match us, hl with | [_], _ => rfl), .nil⟩⟩
  have G_written : Kn P w K mg base 8 "written" ["rows"] [] (spOf (Wv P w K (hCA K)) 1 zbR) := ⟨⟨_, _, [], ok_written T F_written G_need_history G_words_of, g_written, F_written.kp, F_written.bindsN (fun _ _ _ _ _ _ us hl => match us, hl with | [_], _ => rfl), .nil⟩⟩
  have G__law_bad_row : Kn P w K mg base 2 "_law_bad_row" ["_law_d", "_law_rows", "_law_at"] [] (spOf (Wv P w K (hCA K)) 3 zaO) := ⟨⟨_, _, [], ok__law_bad_row T F__law_bad_row G__law_off, g__law_bad_row, F__law_bad_row.kp, F__law_bad_row.bindsN (fun _ _ _ _ _ _ us hl => match us, hl with | [_, _, _], _ => rfl), .nil⟩⟩
  have G__law_alike : Kn P w K mg base 41 "_law_alike" ["_law_found", "_law_due"] [] (spOf (Wv P w K (hCA K)) 2 (ev__law_alike 40)) := by
    have all : ∀ n, Kn P w K mg base (1 + n) "_law_alike" ["_law_found", "_law_due"] [] (spOf (Wv P w K (hCA K)) 2 (ev__law_alike n)) := fun n => by
      induction n with
      | zero => exact ⟨⟨_, _, [], kn_none rfl, g__law_alike, F__law_alike.kp, F__law_alike.bindsN (fun _ _ _ _ _ _ us hl => match us, hl with | [_, _], _ => rfl), .nil⟩⟩
      | succ n ih => exact ⟨⟨_, _, [], ok__law_alike T F__law_alike  (ev__law_alike n) ih, g__law_alike, F__law_alike.kp, F__law_alike.bindsN (fun _ _ _ _ _ _ us hl => match us, hl with | [_, _], _ => rfl), .nil⟩⟩
    exact all 40
  have nb5 := numB_ok (hex_ok hx).2.1
  have nx5 : NumX P w K mg base (hxa K) 5 "BadHistory" "number" := ⟨nb5.1, He.glo_ok X G (cd.fact 34 (f := .glo "BadHistory") rfl), nb5.2.1, _, _, (He.meth_ok (cd.fact 28 (f := .meth "BadHistory" "__init__") rfl)).at_, nb5.2.2, ok_BadHistory___init__ lc F_BadHistory___init__, F_BadHistory___init__.bindsN (fun _ _ _ _ _ _ us hl => match us, hl with | [_, _], _ => rfl)⟩
  have GX_need_history : KnX P w K mg base 7 "need_history" ["rows"] (spY (Wv P w K (hCA K)) (hxa K) 1 zaC) := ⟨⟨_, _, okY_need_history T nx5 F_need_history G_is_row , g_need_history, F_need_history.kp, F_need_history.bindsN (fun _ _ _ _ _ _ us hl => match us, hl with | [_], _ => rfl)⟩⟩
  have GX_judged : KnX P w K mg base 8 "judged" ["rows"] (spY (Wv P w K (hCA K)) (hxa K) 1 za1) := ⟨⟨_, _, okY_judged T nx5 F_judged  GX_need_history, g_judged, F_judged.kp, F_judged.bindsN (fun _ _ _ _ _ _ us hl => match us, hl with | [_], _ => rfl)⟩⟩
  have GX_written : KnX P w K mg base 8 "written" ["rows"] (spY (Wv P w K (hCA K)) (hxa K) 1 zaP) := ⟨⟨_, _, okY_written T nx5 F_written  GX_need_history, g_written, F_written.kp, F_written.bindsN (fun _ _ _ _ _ _ us hl => match us, hl with | [_], _ => rfl)⟩⟩
  have Rf : RefOk2 P w K mg base (hxa K) 8 _ := ref2_ok (k := 6) T xf xn F__law_refused F__law_alike g__law_alike
  refine law_ok T G__law_dice G__law_history G__law_off G__law_bad_row G_written G_judged GX_judged GX_written g__law_refused F__law_refused.kp Rf TB F_law (fun oc od dV kV doc pm an cdv ct osl lk => ?_) runs
  obtain ⟨oc2, od2, dV2, kV2, doc2, pm2, an2, cdv2, ct2, osl2, hfd, lk2, hcd2, _, _⟩ := F_law.ex
  obtain ⟨c', ec⟩ := He.codeIn_ref hcd2
  have e1 := He.codeOf_eq (p := ("law", none)) lk2 (by rw [hfd]; exact ec)
  have e2 : cdv = cdv2 := by
    have z := lk.symm.trans lk2
    rw [hfd] at z
    exact congrArg (fun o : Option Obj => match o with | some ⟨_, _, .func fd, _⟩ => fd.code | _ => cdv) z
  rw [e2, ec]
  show Value.ref c' = .ref (He.codeOf K ("law", none))
  rw [e1]
end
end Ev
open PySem PySem.W PySem.Calls PyProof.Rows
theorem Ev.holds_of (hR : Ev.LawRuns) : PySem.Challenge.rw_lentfiles_k03_histories_refused.Holds := by
  w_on; o_law
  refine HandSHeadRun.head_any (r := OpenLaw.row PySem.Challenge.rw_lentfiles_k03_histories_refused) (q := view (OpenLaw.row PySem.Challenge.rw_lentfiles_k03_histories_refused).prog [48]) (H := Ev.hhk) (ob := Ev.hob) (M := 8000) (loose := Ev.loose) (d := HandSHeadRun.topDef (OpenLaw.row PySem.Challenge.rw_lentfiles_k03_histories_refused).prog 48) (kwd := []) Ev.hob_eq
    (by kernel_rfl) (fun s => by kernel_rfl) Ev.hrun (by kernel_rfl) (by kernel_rfl) (by kernel_rfl) (by rfl) (by first | assumption | decide +kernel) (by decide +kernel) ⟨rfl, rfl, rfl, rfl, rfl, by decide +kernel⟩ ?hw ?hc
  case hw => w_witness2
  case hc =>
    refine LamX.walk_ofTsE (l := PySem.Challenge.rw_lentfiles_k03_histories_refused) (n := 63) (k := 44) (x := "_law_script") (CX := fun _ => L2.CX0) rfl (by decide) (by kernel_rfl) ⟨rfl, by decide, by decide⟩ ?F (fun _ _ _ _ _ z => z)
    intro w mg fa h Y G hmg0
    obtain ⟨K, KX, c⟩ := Y
    have hmg : mg ("law" : PySem.Str) = some (.ref fa) := by
      have e : (HandSHeadRun.topDef (OpenLaw.row PySem.Challenge.rw_lentfiles_k03_histories_refused).prog 48).name = ("law" : PySem.Str) := by kernel_rfl
      rw [← e]
      exact hmg0
    obtain ⟨fd, hb, hF⟩ := Ev.facts (P := (PySem.Challenge.rw_lentfiles_k03_histories_refused).prog) (w := w) KX G hmg c.t.d c.more hR
    refine ⟨K, KX, fd, [He.cT K ("law", none)], _, fun p hp => ?_, fun p hp => ?_, fun p hp => ?_, hb, fun H a ns hl _ hT hS => ?_, fun base KB GB hTB => hF base KB GB (hTB _ List.mem_cons_self)⟩
    · exact c.empty ("law", none) List.mem_cons_self |> fun z => by rw [List.mem_singleton.mp hp]; exact z
    · rw [List.mem_singleton.mp hp]; exact c.out ("law", none) List.mem_cons_self
    · rw [List.mem_singleton.mp hp]; exact PySem.W.codeHd_of_K KX (c.hd ("law", none) List.mem_cons_self)
    · exact ⟨rfl, ⟨a, ns, rfl, hl, hT _ List.mem_cons_self, hS⟩, fun _ => rfl⟩
theorem PySem.Challenge.cw_lentfiles_k03_histories_refused_holds : PySem.Challenge.rw_lentfiles_k03_histories_refused.Holds := by
  exact Ev.holds_of Ev.law_runs
